/- Of the law rZIQDumpBack. -/
import Derived.Test.YtcgbgifbajdhpaaGreatDoorZI7
import Derived.Shelf.SlSortCmp.KitK
set_option linter.unusedVariables false
set_option linter.unusedSimpArgs false
set_option maxHeartbeats 16000000
set_option maxRecDepth 1000000
namespace Go
abbrev aX:=@of_decide_eq_true
abbrev bW:=@Go.bodyPost_ret
abbrev dQ:=@of_decide_eq_false
abbrev dZ:=@Go.World.cell?_setCell_other
abbrev fu:=@Go.Calls.grown_of
abbrev gL:=@Go.results_none
abbrev gZ:=@List.map_append
abbrev iR:=@Int.le_refl
abbrev iU:=@List.mem_cons
abbrev j3:=@List.filter_append
abbrev kr:=@List.filter_eq_nil_iff
abbrev lK:=@Go.Sort.size_swp
abbrev lM:=@Nat.lt_or_eq_of_le
abbrev lN:=@or_false
abbrev nJ:=@Go.Sort.HoldsK.cell
abbrev nT:=@List.mem_range'_1
end Go
namespace Go.Proofs.Y.PA
open Go.Sort
section
variable {α:Type} [Inhabited α]
def EI (d:Array α)(a b:Nat):Nat→Array α
 | 0=>d
 | m+1=>swp (EI d a b m) (a+m) (b+m)
theorem vw (d:Array α)(a b:Nat):∀ m,(EI d a b m).size=d.size
 | 0=>rfl
 | m+1=>by rw[EI,lK,vw d a b m]
def KN (a b n t:Nat):Nat:=if a≤t∧t<a+n then t+(b-a) else if b≤t∧t<b+n then t-(b-a) else t
theorem xQ (d:Array α)(a b:Nat):∀ m,a+m≤b→b+m≤d.size→∀ t,(EI d a b m)[t]! = d[KN a b m t]!
 | 0,_,_,t=>by
   rw[EI,show KN a b 0 t=t from by unfold KN;rw[aK (by omega),aK (by omega)]]
 | m+1,h1,h2,t=>by
   rw[EI,swp_get _ (by rw[vw];omega) (by rw[vw];omega),xQ d a b m (by omega) (by omega),xQ d a b m (by omega) (by omega),xQ d a b m (by omega) (by omega)]
   by_cases e1:t=b+m
   ·rw[ak e1,show KN a b m (a+m)=KN a b (m+1) t from by unfold KN;(repeat' split)<;>omega]
   ·rw[aK e1]
    by_cases e2:t=a+m
    ·rw[ak e2,show KN a b m (b+m)=KN a b (m+1) t from by unfold KN;(repeat' split)<;>omega]
    ·rw[aK e2,show KN a b m t=KN a b (m+1) t from by unfold KN;(repeat' split)<;>omega]
def sw (a m b t:Nat):Nat:=if t<a then t else if t<a+(b-m) then m+(t-a) else if t<b then t-(b-m) else t
theorem MN (i j m t:Nat)(h:j<i)(hi:i≤m):KN (m-i) m j (sw (m-(i-j)) m (m+j) t)=sw (m-i) m (m+j) t:=by
 unfold sw KN
 (repeat' split)<;>omega
theorem Jz (i j m t:Nat)(h:i<j)(hi:i≤m):KN (m-i) (m+j-i) i (sw (m-i) m (m+(j-i)) t)=sw (m-i) m (m+j) t:=by
 unfold sw KN
 (repeat' split)<;>omega
theorem MO (i m t:Nat)(hi:i≤m):KN (m-i) m i t=sw (m-i) m (m+i) t:=by
 unfold sw KN
 (repeat' split)<;>omega
theorem y8 (a m b t:Nat)(h:a≤m)(h2:m≤b)(h3:a=m∨m=b):sw a m b t=t:=by
 unfold sw
 (repeat' split)<;>omega
def tC (d:Array α)(a b:Nat):List α:=(List.range' a (b-a)).map (d[·]!)
theorem zw (d:Array α)(a b:Nat):(tC d a b).length=b-a:=by simp[tC]
theorem AZ (d:Array α):tC d 0 d.size=d.toList:=by
 apply iE
 ·simp[tC]
 ·intro i h1 h2;simp[tC] at h1 ⊢;rw[mR d i (by simpa using h2)]
theorem xP (d:Array α){a b c:Nat}(h1:a≤b)(h2:b≤c):tC d a c=tC d a b++tC d b c:=by
 unfold tC;rw[← gZ];congr 1;have:=List.range'_append_1 (s:=a) (m:=b-a) (n:=c-b);rw[show a+(b-a)=b from by omega] at this;rw[this,show b-a+(c-b)=c-a from by omega]
theorem Ba {d d':Array α}{a b:Nat}(h:∀ t,a≤t→t<b→d'[t]! = d[t]!):tC d' a b=tC d a b:=by
 unfold tC;apply nu;intro t ht;rw[nT] at ht;exact h t ht.1 (by omega)
theorem JB {d d':Array α}{a b n:Nat}(h:∀ t,t<n→d'[a+t]! = d[b+t]!):tC d' a (a+n)=tC d b (b+n):=by
 apply iE
 ·simp[tC]
 ·intro i h1 h2;simp[tC] at h1 ⊢;exact h i h1
theorem Az {d:Array α}{a b:Nat}{x:α}:x∈tC d a b↔∃ t,a≤t∧t<b∧d[t]! = x:=by
 unfold tC;rw[nV];constructor
 ·rintro⟨t,h1,h2⟩;rw[nT] at h1;exact⟨t,h1.1,by omega,h2⟩
 ·rintro⟨t,h1,h2,h3⟩;exact⟨t,by rw[nT];omega,h3⟩
variable (key:α→Int)
def MG (d:Array α)(a b:Nat)(d':Array α):Prop:=d'.size=d.size∧(∀ t,t<a∨b≤t→d'[t]! = d[t]!)∧∀ v:Int,(tC d' a b).filter (fun x=>decide (key x=v))=(tC d a b).filter (fun x=>decide (key x=v))
def uf (d:Array α)(a b:Nat):Prop:=∀ i j,a≤i→i<j→j<b→key d[i]! ≤ key d[j]!
variable {key}
theorem MG.refl (d:Array α)(a b:Nat):MG key d a b d:=⟨rfl,fun _ _=>rfl,fun _=>rfl⟩
theorem MG.trans {d d' d'':Array α}{a b:Nat}(h:MG key d a b d')(k:MG key d' a b d''):MG key d a b d'' :=
 ⟨k.1.trans h.1,fun t ht=>(k.2.1 t ht).trans (h.2.1 t ht),fun v=>(k.2.2 v).trans (h.2.2 v)⟩
theorem MG.wide {d d':Array α}{a b a' b':Nat}(h:MG key d a b d')(h1:a'≤a)(h2:b≤b')(hab:a≤b):MG key d a' b' d':=by
 refine⟨h.1,fun t ht=>h.2.1 t (by omega),fun v=>?_⟩;rw[xP d' h1 (by omega:a≤b'),xP d' hab h2,xP d h1 (by omega:a≤b'),xP d hab h2];simp only[j3];rw[h.2.2 v,Ba (d':=d') (d:=d) (fun t h3 h4=>h.2.1 t (.inl h4)),Ba (d':=d') (d:=d) (fun t h3 h4=>h.2.1 t (.inr h3))]
theorem MG.from_ {d d':Array α}{a b:Nat}(h:MG key d a b d')(t:Nat)(h1:a≤t)(h2:t<b):∃ s,a≤s∧s<b∧d[s]! = d'[t]! := by
 have hm:d'[t]! ∈ (tC d' a b).filter (fun x=>decide (key x=key d'[t]!)):=List.mem_filter.2 ⟨Az.2 ⟨t,h1,h2,rfl⟩,by simp⟩;rw[h.2.2] at hm;exact Az.1 (List.mem_filter.1 hm).1
theorem MG.Yl {d d':Array α}{a m b:Nat}(hs:d'.size=d.size)(h1:a≤m)(h2:m≤b)(hr:∀ t,d'[t]! = d[sw a m b t]!)(hk:∀ i j,a≤i→i<m→m≤j→j<b→key d[j]! < key d[i]!):MG key d a b d':=by
 refine⟨hs,fun t ht=>by rw[hr,show sw a m b t=t from by unfold sw;(repeat' split)<;>omega],fun v=>?_⟩;have e1:tC d' a (a+(b-m))=tC d m (m+(b-m)):=JB (fun t ht=>by rw[hr,show sw a m b (a+t)=m+t from by unfold sw;(repeat' split)<;>omega]);have e2:tC d' (a+(b-m)) (a+(b-m)+(m-a))=tC d a (a+(m-a)):=JB (fun t ht=>by rw[hr,show sw a m b (a+(b-m)+t)=a+t from by unfold sw;(repeat' split)<;>omega]);rw[show m+(b-m)=b from by omega] at e1;rw[show a+(b-m)+(m-a)=b from by omega,show a+(m-a)=m from by omega] at e2;rw[xP d' (by omega:a≤a+(b-m)) (by omega:a+(b-m)≤b),e1,e2,xP d h1 h2,j3,j3]
 by_cases hA:∃ x∈tC d a m,key x=v
 ·obtain⟨x,hx,hv⟩:=hA;obtain⟨i,i1,i2,rfl⟩:=Az.1 hx;have:(tC d m b).filter (fun x=>decide (key x=v))=[]:=by
   rw[kr];intro y hy;obtain⟨j,j1,j2,rfl⟩:=Az.1 hy;have:=hk i j i1 i2 j1 j2;simp;omega
  rw[this];simp
 ·have:(tC d a m).filter (fun x=>decide (key x=v))=[]:=by
   rw[kr];intro y hy;simp;exact fun e=>hA ⟨y,hy,e⟩
  rw[this];simp
theorem MG.nb {d:Array α}{i:Nat}(hi:i+1<d.size)(hk:key d[i+1]! < key d[i]!):MG key d i (i+2) (swp d i (i+1)):=by
 refine MG.Yl (m:=i+1) (lK _ _ _) (by omega) (by omega) (fun t=>?_) (fun p q h1 h2 h3 h4=>?_)
 ·rw[swp_get d (by omega) hi]
  by_cases e1:t=i+1
  ·rw[ak e1,show sw i (i+1) (i+2) t=i from by unfold sw;(repeat' split)<;>omega]
  ·rw[aK e1]
   by_cases e2:t=i
   ·rw[ak e2,show sw i (i+1) (i+2) t=i+1 from by unfold sw;(repeat' split)<;>omega]
   ·rw[aK e2,show sw i (i+1) (i+2) t=t from by unfold sw;(repeat' split)<;>omega]
 ·obtain rfl:p=i:=by omega
  obtain rfl:q=p+1:=by omega
  exact hk
theorem QW (d:Array α){i j:Nat}(hi:i<d.size)(hj:j<d.size):swp d i j=swp d j i:=by
 apply Array.ext
 ·simp[lK]
 ·intro t h1 h2;have:=swp_get d hi hj t;have h:=swp_get d hj hi t;rw[mR _ t h1] at this;rw[mR _ t h2] at h;rw[this,h]
  by_cases e1:t=j<;>by_cases e2:t=i<;>simp_all
variable {lt:α→α→Bool}
theorem Ez (hlt:∀ x y,lt x y=true→key x<key y)(a:Nat):∀ j (d:Array α),a≤j→j<d.size→MG key d a (j+1) (insInner lt a j d)
 | 0,d,_,_=>by rw[insInner];exact MG.refl _ _ _
 | j+1,d,h,hj=>by
   rw[insInner];split
   ·rename_i hc;simp only[dx,gJ] at hc;have h1:MG key d j (j+2) (swp d (j+1) j):=by
     rw[QW d hj (by omega)];exact MG.nb hj (hlt _ _ hc.2)
    have h2:=Ez hlt a j (swp d (j+1) j) (by omega) (by rw[lK];omega);exact (h1.wide (by omega) (by omega) (by omega)).trans (h2.wide (aD _) (by omega) (by omega))
   ·exact MG.refl _ _ _
theorem Bq (a:Nat):∀ j (d:Array α),(insInner lt a j d).size=d.size
 | 0,d=>by rw[insInner]
 | j+1,d=>by
   rw[insInner];split
   ·rw[Bq a j,lK]
   ·rfl
theorem EA (hlt:∀ x y,lt x y=true→key x<key y)(a b:Nat):∀ n i (d:Array α),b-i=n→a≤i→i≤b→b≤d.size→MG key d a b (insOuter lt a b i d)
 | 0,i,d,hn,h1,h2,h3=>by
   rw[insOuter,aK (by omega)];exact MG.refl _ _ _
 | n+1,i,d,hn,h1,h2,h3=>by
   rw[insOuter,ak (by omega)];have k1:=Ez hlt a i d h1 (by omega);have k2:=EA hlt a b n (i+1) (insInner lt a i d) (by omega) (by omega) (by omega) (by rw[Bq];omega);exact (k1.wide (aD _) (by omega) (by omega)).trans k2
theorem DT (hlt:∀ x y,lt x y=true→key x<key y)(d:Array α)(a b:Nat)(hab:a≤b)(hb:b≤d.size):MG key d a b (insertionSort lt d a b):=by
 unfold insertionSort
 by_cases h:a+1≤b
 ·exact EA hlt a b _ (a+1) d rfl (by omega) h hb
 ·rw[insOuter,aK (by omega)];exact MG.refl _ _ _
theorem Kk (hlt:∀ x y,lt x y=true↔key x<key y)(d:Array α)(a b:Nat)(hab:a≤b)(hb:b≤d.size):uf key (insertionSort lt d a b) a b:=by
 have hf:∀ x y,lt x y=false↔key y≤key x:=fun x y=>by
  rw[← Bool.not_eq_true,hlt];omega
 have hS:SWO lt:=⟨fun x=>by rw[hf];omega,fun x y z h1 h2=>by rw[hlt] at *;omega,fun x y z h1 h2=>by rw[hf] at *;omega⟩;have:=(insertionSort_holds hS d a b hab hb).2;intro i j h1 h2 h3;exact (hf _ _).1 (this i j h1 h2 h3)
theorem wM {d d1 d2 d3:Array α}{a s m e b q:Nat}(hb:b≤d.size)(h1:a≤s)(h2:s≤m)(h3:m≤e)(h4:e≤b)(hq:q=s+(e-m))(hA:uf key d a m)(hB:uf key d m b)(hs1:d1.size=d.size)(hr:∀ t,d1[t]! = d[sw s m e t]!)
 (hL:a<s→e<b→key d[s-1]! ≤ key d[e]!) (hR:s<m→m<e→key d[e-1]! < key d[s]!) (k2:MG key d1 a q d2) (s2:uf key d2 a q) (k3:MG key d2 q b d3) (s3:uf key d3 q b):MG key d a b d3∧uf key d3 a b:=by
 have hAA:∀ i j,a≤i→i≤j→j<m→key d[i]! ≤ key d[j]! := fun i j x y z=>by
  rcases lM y with y | rfl
  ·exact hA i j x y z
  ·exact iR _
 have hBB:∀ i j,m≤i→i≤j→j<b→key d[i]! ≤ key d[j]! := fun i j x y z=>by
  rcases lM y with y | rfl
  ·exact hB i j x y z
  ·exact iR _
 have k1:MG key d s e d1:=MG.Yl hs1 h2 h3 hr (fun i j x1 x2 x3 x4=>by
  have:=hR (by omega) (by omega);have y1:=hAA s i h1 x1 x2;have y2:=hBB j (e-1) x3 (by omega) (by omega);omega)
 refine⟨(k1.wide h1 h4 (by omega)).trans ((k2.wide (aD _) (by omega) (by omega)).trans (k3.wide (by omega) (aD _) (by omega))),fun i j x1 x2 x3=>?_⟩;have cross:∀ p r,a≤p→p<q→q≤r→r<b→key d1[p]! ≤ key d1[r]! := fun p r y1 y2 y3 y4=>by
  rw[hr p,hr r]
  by_cases c1:p<s
  ·rw[show sw s m e p=p from by unfold sw;rw[ak c1]]
   by_cases c2:r<e
   ·rw[show sw s m e r=r-(e-m) from by unfold sw;rw[aK (by omega),aK (by omega),ak c2]];exact hAA _ _ y1 (by omega) (by omega)
   ·rw[show sw s m e r=r from by unfold sw;rw[aK (by omega),aK (by omega),aK c2]];have z1:=hL (by omega) (by omega);have z2:=hAA p (s-1) y1 (by omega) (by omega);have z3:=hBB e r (by omega) (by omega) y4;omega
  ·rw[show sw s m e p=m+(p-s) from by unfold sw;rw[aK c1,ak (by omega)]]
   by_cases c2:r<e
   ·rw[show sw s m e r=r-(e-m) from by unfold sw;rw[aK (by omega),aK (by omega),ak c2]];have z1:=hR (by omega) (by omega);have z2:=hBB (m+(p-s)) (e-1) (by omega) (by omega) (by omega);have z3:=hAA s (r-(e-m)) h1 (by omega) (by omega);omega
   ·rw[show sw s m e r=r from by unfold sw;rw[aK (by omega),aK (by omega),aK c2]];exact hBB _ _ (by omega) (by omega) y4
 by_cases c1:j<q
 ·rw[k3.2.1 i (.inl (by omega)),k3.2.1 j (.inl c1)];exact s2 i j x1 x2 c1
 ·by_cases c2:q≤i
  ·exact s3 i j c2 x2 x3
  ·rw[k3.2.1 i (.inl (by omega))];obtain⟨p,p1,p2,p3⟩:=k2.from_ i x1 (by omega);obtain⟨r,r1,r2,r3⟩:=k3.from_ j (by omega) x3;rw[k2.2.1 r (.inr r1)] at r3;rw[← p3,← r3];exact cross p r p1 p2 r1 r2
theorem Mq {d d1:Array α}{a i b:Nat}(hb:b≤d.size)(h1:a+1≤i)(h2:i≤b)(hB:uf key d (a+1) b)(hs1:d1.size=d.size)(hr:∀ t,d1[t]! = d[sw a (a+1) i t]!)(hL:a+1<i→key d[i-1]! < key d[a]!)(hR:i<b→key d[a]! ≤ key d[i]!):MG key d a b d1∧uf key d1 a b:=by
 have k:=wM (key:=key) (d:=d) (d1:=d1) (d2:=d1) (d3:=d1) (a:=a) (s:=a) (m:=a+1) (e:=i) (b:=b) (q:=a+(i-(a+1))) hb (aD _) (by omega) h1 h2 rfl (fun i j _ _ _=>by omega) hB hs1 hr (fun h=>by omega) (fun _ h=>hL h) (MG.refl _ _ _) (fun x y x1 x2 x3=>?_) (MG.refl _ _ _) (fun x y x1 x2 x3=>?_)
 ·exact k
 ·rw[hr,hr,show sw a (a+1) i x=a+1+(x-a) from by unfold sw;rw[aK (by omega),ak (by omega)],show sw a (a+1) i y=a+1+(y-a) from by unfold sw;rw[aK (by omega),ak (by omega)]];exact hB _ _ (by omega) (by omega) (by omega)
 ·rw[hr,hr,show sw a (a+1) i y=y from by unfold sw;rw[aK (by omega),aK (by omega),aK (by omega)]]
  by_cases c:x<i
  ·rw[show sw a (a+1) i x=a from by unfold sw;(repeat' split)<;>omega];rcases Nat.eq_or_lt_of_le (show i≤y from by omega) with rfl | c2
   ·exact hR (by omega)
   ·have:=hR (by omega);have:=hB i y (by omega) c2 x3;omega
  ·rw[show sw a (a+1) i x=x from by unfold sw;rw[aK (by omega),aK (by omega),aK (by omega)]];exact hB _ _ (by omega) x2 x3
theorem Jp {d d1:Array α}{a i m:Nat}(hb:m+1≤d.size)(h1:a≤i)(h2:i≤m)(hA:uf key d a m)(hs1:d1.size=d.size)(hr:∀ t,d1[t]! = d[sw i m (m+1) t]!)(hL:a<i→key d[i-1]! ≤ key d[m]!)(hR:i<m→key d[m]! < key d[i]!):MG key d a (m+1) d1∧uf key d1 a (m+1):=by
 have k:=wM (key:=key) (d:=d) (d1:=d1) (d2:=d1) (d3:=d1) (a:=a) (s:=i) (m:=m) (e:=m+1) (b:=m+1) (q:=i+1) hb h1 h2 (by omega) (aD _) (by omega) hA (fun i j _ _ _=>by omega) hs1 hr (fun _ h=>by omega) (fun h _=>hR h) (MG.refl _ _ _) (fun x y x1 x2 x3=>?_) (MG.refl _ _ _) (fun x y x1 x2 x3=>?_)
 ·exact k
 ·rw[hr,hr,show sw i m (m+1) x=x from by unfold sw;rw[ak (by omega)]]
  by_cases c:y<i
  ·rw[show sw i m (m+1) y=y from by unfold sw;rw[ak c]];exact hA _ _ x1 x2 (by omega)
  ·rw[show sw i m (m+1) y=m from by unfold sw;rw[aK c,ak (by omega)];omega];rcases Nat.eq_or_lt_of_le (show x+1≤i from by omega) with c2 | c2
   ·have:=hL (by omega);rw[show i-1=x from by omega] at this;exact this
   ·have:=hL (by omega);have:=hA x (i-1) x1 (by omega) (by omega);omega
 ·rw[hr,hr,show sw i m (m+1) x=x-1 from by unfold sw;rw[aK (by omega),aK (by omega),ak (by omega)];omega,show sw i m (m+1) y=y-1 from by unfold sw;rw[aK (by omega),aK (by omega),ak (by omega)];omega];exact hA _ _ (by omega) (by omega) (by omega)
end
end Go.Proofs.Y.PA
namespace Go.Proofs.Y.PA
open Go.Shelf Go.RowKit Go.Lib Go.Sort
instance:Inhabited qC:=⟨z70⟩
def qp (x:qC):List Value:=[.int .i64 x.f0,.int .u64 x.f1]
theorem Sm (x:qC):(qp x).length=2:=rfl
theorem Gl (x:qC):∀ v∈qp x,v.oneCell'=true:=by
 intro v hv;simp only[qp,iU,iw,lN] at hv;rcases hv with rfl | rfl<;>rfl
section
variable {w0 W:World} {blk off:Nat} {d0 dk:Array qC}
theorem sH (h:SWK qp 2 w0 blk off dk W)(R:RowK qp 2 w0 blk off d0)(hs:dk.size=d0.size)(i:Nat)(hi:i<dk.size) :
 W.cell? ⟨blk,off+i*2,none⟩=some (.int .i64 dk[i]!.f0)∧W.cell? ⟨blk,off+i*2+1,none⟩=some (.int .u64 dk[i]!.f1)∧W.frozen? ⟨blk,off+i*2,none⟩=false∧W.frozen? ⟨blk,off+i*2+1,none⟩=false:=by
 have H:=h.holds R.hblk R.hH hs;have h0:=nJ H (c:=0) hi (by omega);have h1:=nJ H (c:=1) hi (by omega);exact⟨h0.1,h1.1,h0.2,h1.2⟩
def LQ (W:World)(blk off i j:Nat)(x y:qC):World:=((((W.setCell ⟨blk,off+i*2,none⟩ (.int .i64 x.f0)).setCell ⟨blk,off+i*2+1,none⟩ (.int .u64 x.f1)).setCell ⟨blk,off+j*2,none⟩ (.int .i64 y.f0)).setCell ⟨blk,off+j*2+1,none⟩ (.int .u64 y.f1)).drew
theorem Ka (W:World)(blk off i j:Nat)(x y:qC):((((W.setCell ⟨blk,off+i*2,none⟩ (.int .i64 x.f0)).setCell ⟨blk,off+i*2+1,none⟩ (.int .u64 x.f1)).setCell ⟨blk,off+j*2,none⟩ (.int .i64 y.f0)).setCell ⟨blk,off+j*2+1,none⟩ (.int .u64 y.f1)).drew=LQ W blk off i j x y:=rfl
theorem H6 (h:SWK qp 2 w0 blk off dk W)(R:RowK qp 2 w0 blk off d0)(i j:Nat)(hi:i<dk.size)(hj:j<dk.size):SWK qp 2 w0 blk off (swp dk i j) (LQ W blk off i j dk[j]! dk[i]!):=h.swapped R i j hi hj
theorem wP (h:SWK qp 2 w0 blk off dk W)(R:RowK qp 2 w0 blk off d0)(hs:dk.size=d0.size)(i j:Nat)(hij:i≠j)(hj:j<dk.size)(u v:Value) :
 ((W.setCell ⟨blk,off+i*2,none⟩ u).setCell ⟨blk,off+i*2+1,none⟩ v).drew.cell? ⟨blk,off+j*2,none⟩=some (.int .i64 dk[j]!.f0)∧((W.setCell ⟨blk,off+i*2,none⟩ u).setCell ⟨blk,off+i*2+1,none⟩ v).drew.cell? ⟨blk,off+j*2+1,none⟩=some (.int .u64 dk[j]!.f1):=by
 obtain⟨q0,q1,_,_⟩:=sH h R hs j hj;constructor
 ·show ((W.setCell _ u).setCell _ v).cell? _=_;rw[dZ _ _ _ _ (by intro e;injection e with _ e _;omega),dZ _ _ _ _ (by intro e;injection e with _ e _;omega)];exact q0
 ·show ((W.setCell _ u).setCell _ v).cell? _=_;rw[dZ _ _ _ _ (by intro e;injection e with _ e _;omega),dZ _ _ _ _ (by intro e;injection e with _ e _;omega)];exact q1
theorem Fy {cf:qC→qC→Int}{g:Nat}(h:SWK qp 2 w0 blk off dk W)(hC:CmpLays Tryz.prog g #[] qp 2 cf blk off d0.size w0)(hs:dk.size=d0.size)(x y:qC)(n:Nat)(os:Array Obj) :
 Calls Tryz.prog g #[.agg #[.int .i64 x.f0,.int .u64 x.f1],.agg #[.int .i64 y.f0,.int .u64 y.f1]] (grow (W.drewN n) os) fun e w'=>e = .returned (.int .i64 (cf x y))∧∃ q os',w'=grow ((grow (W.drewN n) os).drewN q) os' :=
 h.cmp hC hs x y n os
theorem rC (h:SWK qp 2 w0 blk off dk W)(R:RowK qp 2 w0 blk off d0)(hs:dk.size=d0.size)(i:Nat)(hi:i<dk.size)(n:Nat)(os:Array Obj) :
 (grow (W.drewN n) os).cell? ⟨blk,off+i*2,none⟩=some (.int .i64 dk[i]!.f0)∧(grow (W.drewN n) os).cell? ⟨blk,off+i*2+1,none⟩=some (.int .u64 dk[i]!.f1):=
 ⟨(sH (h.grown n os) R hs i hi).1,(sH (h.grown n os) R hs i hi).2.1⟩
end
theorem swapRange.c (g:Nat)(blk off cap a b n:Nat)(d0 d:Array qC)(w0 w:World)(R:RowK qp 2 w0 blk off d0)(hs:d0.size=d.size)(S:SWK qp 2 w0 blk off d w)(ha:a+n≤b)(hb:b+n≤d.size)(hsz:d.size<4611686018427387904) :
 Calls Tryz.prog 159 #[.slice (some ⟨blk,off,none⟩) d.size cap,.int .i64 a,.int .i64 b,.int .i64 n,.func (.func g) #[] #[]] w fun e w'=>e = .returned (.tuple #[])∧SWK qp 2 w0 blk off (EI d a b n) w':=by
 have mixed:Tryz.prog.follows .mixedOrders=true:=by kernel_rfl
 have S0:Aside (SWK qp 2 w0 blk off d w):=S;clear S
 go_enter Tryz.func159,Tryz.ntmps159
 go_wp2
 go_loopg [10] n (fun kx s wr=>∃ (m:Nat),s = .int .i64 m∧m≤n∧n-m≤kx∧Aside (SWK qp 2 w0 blk off (EI d a b m) wr))
 case atStart=>exact⟨0,rfl,by omega,by omega,S0⟩
 case round=>
  clear S0;obtain⟨m,rfl,hm,hkx,S1⟩:=hrel
  by_cases hlt:(m:Int)<(n:Int)
  ·have hds:=vw d a b m;generalize hdk:EI d a b m=dk at S1 hds;have ea44:((a:Int)+(m:Int)).toNat=a+m:=by omega
   have pa44:(0:Int)≤(a:Int)+(m:Int):=by omega
   have ba44:(a:Int)+(m:Int)<(d.size:Int):=by omega
   have ra44:IntKind.i64.wrap ((a:Int)+(m:Int))=(a:Int)+(m:Int):=by rw[bI];omega
   have ec44:((b:Int)+(m:Int)).toNat=b+m:=by omega
   have pc44:(0:Int)≤(b:Int)+(m:Int):=by omega
   have bc44:(b:Int)+(m:Int)<(d.size:Int):=by omega
   have rc44:IntKind.i64.wrap ((b:Int)+(m:Int))=(b:Int)+(m:Int):=by rw[bI];omega
   have S2:Aside (SWK qp 2 w0 blk off (swp dk (a+m) (b+m)) (LQ wr blk off (a+m) (b+m) dk[b+m]! dk[a+m]!)):=H6 S1.o R (a+m) (b+m) (by omega) (by omega);obtain⟨p0,p1,_,_⟩:=sH S1.o.drew R (by omega) (a+m) (by omega);obtain⟨q0,q1,_,_⟩:=sH S1.o.drew R (by omega) (b+m) (by omega);obtain⟨_,_,f2,f3⟩:=sH S1.o R (by omega) (a+m) (by omega);obtain⟨_,_,g2,g3⟩:=sH S1.o R (by omega) (b+m) (by omega);have q3:=fun u v=>(wP S1.o R (by omega) (a+m) (b+m) (by omega) (by omega) u v).1
   have q4:=fun u v=>(wP S1.o R (by omega) (a+m) (b+m) (by omega) (by omega) u v).2
   generalize dk[a+m]! = X at *;generalize dk[b+m]! = Y at *;clear S1
   go_wp2_with fail
   go_big_region_o
   clear p0 p1 q0 q1 f2 f3 g2 g3 q3 q4;rw[Ka];generalize LQ wr blk off (a+m) (b+m) Y X=w2 at S2 ⊢;have S3:Aside (SWK qp 2 w0 blk off (EI d a b (m+1)) w2):=by rw[EI,hdk];exact S2
   clear S2;go_wp2
   go_roundg (n-(m+1))
   case measure=>omega
   case rel=>exact⟨m+1,by go_num,by omega,aD _,S3⟩
  ·obtain rfl:m=n:=by omega
   go_wp2;go_end0;exact⟨rfl,S1.o⟩
theorem rotate.c (g:Nat)(blk off cap a m b:Nat)(d0 d:Array qC)(w0 w:World)(R:RowK qp 2 w0 blk off d0)(hs:d0.size=d.size)(S:SWK qp 2 w0 blk off d w)(ha:a<m)(hm:m<b)(hb:b≤d.size)(hsz:d.size<4611686018427387904) :
 Calls Tryz.prog 155 #[.slice (some ⟨blk,off,none⟩) d.size cap,.int .i64 a,.int .i64 m,.int .i64 b,.func (.func g) #[] #[]] w fun e w'=>e = .returned (.tuple #[])∧∃ d',SWK qp 2 w0 blk off d' w'∧d'.size=d.size∧∀ t,d'[t]! = d[sw a m b t]! := by
 have mixed:Tryz.prog.follows .mixedOrders=true:=by kernel_rfl
 have S0:Aside (SWK qp 2 w0 blk off d w):=S;clear S
 go_enter Tryz.func155,Tryz.ntmps155
 go_wp2
 go_loopg [10,11] b (fun kx s10 s11 wr=>∃ (i j:Nat) (dk:Array qC),s10 = .int .i64 i∧s11 = .int .i64 j∧0<i∧0<j∧i≤m∧m+j≤d.size∧i+j≤kx∧dk.size=d.size∧Aside (SWK qp 2 w0 blk off dk wr)∧Aside (∀ t,dk[sw (m-i) m (m+j) t]! = d[sw a m b t]!))
 case atStart=>exact⟨m-a,b-m,d,by go_num,by go_num,by omega,by omega,by omega,by omega,by omega,rfl,S0,by show ∀ t,_;intro t;rw[show m-(m-a)=a from by omega,show m+(b-m)=b from by omega]⟩
 case round=>
  clear S0;obtain⟨i,j,dk,rfl,rfl,hi,hj,him,hmj,hkx,hds,S1,HR⟩:=hrel;have rw1:IntKind.i64.wrap ((m:Int)-(i:Int))=((m-i:Nat):Int):=by rw[bI];omega
  have rw2:(m:Int)-(i:Int)=((m-i:Nat):Int):=by omega
  by_cases hij:i=j
  ·subst hij;have hc:=swapRange.c g blk off cap (m-i) m i d0 dk w0 wr R (by omega) S1.o (by omega) (by omega) (by omega);rw[hds] at hc;have HC:=Yu hc;clear hc
   go_wp2_with (first|(go_at_call 159;refine HC.o.mono ?_;rintro e w1 ⟨rfl,hS⟩;have S2:Aside (SWK qp 2 w0 blk off (EI dk (m-i) m i) w1):=hS;clear hS))
   go_end0;refine⟨rfl,_,S2.o,by rw[vw];exact hds,fun t=>?_⟩;rw[xQ dk _ _ i (by omega) (by omega),MO i m t him];exact HR.o t
  ·by_cases hlt:j<i
   ·have hgz:(i:Int)>(j:Int):=by omega
    have hne:¬ (i:Int)=(j:Int):=by omega
    have hc:=swapRange.c g blk off cap (m-i) m j d0 dk w0 wr R (by omega) S1.o (by omega) (by omega) (by omega);rw[hds] at hc;have HC:=Yu hc;clear hc
    go_wp2_with (first|(go_at_call 159;refine HC.o.mono ?_;rintro e w1 ⟨rfl,hS⟩;have S2:Aside (SWK qp 2 w0 blk off (EI dk (m-i) m j) w1):=hS;clear hS))
    go_roundg (i+j-1)
    case measure=>omega
    case rel=>
     refine⟨i-j,j,EI dk (m-i) m j,by go_num,rfl,by omega,hj,by omega,hmj,by omega,by rw[vw];exact hds,S2,?_⟩;show ∀ t,_;intro t;rw[xQ dk _ _ j (by omega) (by omega),MN i j m t hlt him];exact HR.o t
   ·have hgz:¬ (i:Int)>(j:Int):=by omega
    have hne:¬ (i:Int)=(j:Int):=by omega
    have rw3:(m:Int)+(j:Int)-(i:Int)=((m+j-i:Nat):Int):=by omega
    have hc:=swapRange.c g blk off cap (m-i) (m+j-i) i d0 dk w0 wr R (by omega) S1.o (by omega) (by omega) (by omega);rw[hds] at hc;have HC:=Yu hc;clear hc
    go_wp2_with (first|(go_at_call 159;refine HC.o.mono ?_;rintro e w1 ⟨rfl,hS⟩;have S2:Aside (SWK qp 2 w0 blk off (EI dk (m-i) (m+j-i) i) w1):=hS;clear hS))
    go_roundg (i+j-1)
    case measure=>omega
    case rel=>
     refine⟨i,j-i,EI dk (m-i) (m+j-i) i,rfl,by go_num,hi,by omega,him,by omega,by omega,by rw[vw];exact hds,S2,?_⟩;show ∀ t,_;intro t;rw[xQ dk _ _ i (by omega) (by omega),Jz i j m t (by omega) him];exact HR.o t
theorem TQ {α:Type}[Inhabited α]{d dk:Array α}{a k:Nat}(hs:dk.size=d.size)(hk:k+1<d.size)(ha:a≤k)(h:∀ t,dk[t]! = d[sw a (a+1) (k+1) t]!):∀ t,(swp dk k (k+1))[t]! = d[sw a (a+1) (k+1+1) t]! := fun t=>by
 rw[swp_get dk (by omega) (by omega),h,h,h]
 by_cases e1:t=k+1
 ·rw[ak e1,show sw a (a+1) (k+1) k=sw a (a+1) (k+1+1) t from by unfold sw;(repeat' split)<;>omega]
 ·rw[aK e1]
  by_cases e2:t=k
  ·rw[ak e2,show sw a (a+1) (k+1) (k+1)=sw a (a+1) (k+1+1) t from by unfold sw;(repeat' split)<;>omega]
  ·rw[aK e2,show sw a (a+1) (k+1) t=sw a (a+1) (k+1+1) t from by unfold sw;(repeat' split)<;>omega]
theorem ML {α:Type}[Inhabited α]{d dk:Array α}{m k:Nat}(hs:dk.size=d.size)(hk:k+1<d.size)(ha:k+1≤m)(h:∀ t,dk[t]! = d[sw (k+1) m (m+1) t]!):∀ t,(swp dk (k+1) k)[t]! = d[sw k m (m+1) t]! := fun t=>by
 rw[swp_get dk (by omega) (by omega),h,h,h]
 by_cases e1:t=k
 ·rw[ak e1,show sw (k+1) m (m+1) (k+1)=sw k m (m+1) t from by unfold sw;(repeat' split)<;>omega]
 ·rw[aK e1]
  by_cases e2:t=k+1
  ·rw[ak e2,show sw (k+1) m (m+1) k=sw k m (m+1) t from by unfold sw;(repeat' split)<;>omega]
  ·rw[aK e2,show sw (k+1) m (m+1) t=sw k m (m+1) t from by unfold sw;(repeat' split)<;>omega]
def Em (g:Nat)(cf:qC→qC→Int)(key:qC→Int)(blk off cap:Nat)(d0:Array qC)(w0:World)(n:Nat):Prop:=
 ∀ (a m b:Nat) (d:Array qC) (w:World),b-a≤n→d.size=d0.size→SWK qp 2 w0 blk off d w→a<m→m<b→b≤d0.size→uf key d a m→uf key d m b →
 Calls Tryz.prog 149 #[.slice (some ⟨blk,off,none⟩) d0.size cap,.int .i64 a,.int .i64 m,.int .i64 b,.func (.func g) #[] #[]] w fun e w'=>e = .returned (.tuple #[])∧∃ d',SWK qp 2 w0 blk off d' w'∧MG key d a b d'∧uf key d' a b
theorem symMerge.left (g:Nat)(cf:qC→qC→Int)(key:qC→Int)(hcf:∀ x y,cf x y<0↔key x<key y)(eg:∀ args w,(callFunc g args).run Tryz.prog w = .ok (.enter g args) w)
 (blk off cap:Nat) (d0:Array qC) (w0:World) (R:RowK qp 2 w0 blk off d0) (hC:CmpLays Tryz.prog g #[] qp 2 cf blk off d0.size w0) (hsz:d0.size<4611686018427387904)
 (a m b:Nat) (d:Array qC) (w:World) (hma:m=a+1) (hs:d.size=d0.size) (S:SWK qp 2 w0 blk off d w) (hm:a+1<b) (hb:b≤d0.size) (hB:uf key d (a+1) b) :
 Calls Tryz.prog 149 #[.slice (some ⟨blk,off,none⟩) d0.size cap,.int .i64 (a),.int .i64 (m),.int .i64 (b),.func (.func g) #[] #[]] w fun e w'=>e = .returned (.tuple #[])∧∃ d',SWK qp 2 w0 blk off d' w'∧MG key d a (b) d'∧uf key d' a (b):=by
 have mixed:Tryz.prog.follows .mixedOrders=true:=by kernel_rfl
 have S0:Aside (SWK qp 2 w0 blk off d w):=S;have HC:=Yu hC;have HCF:=Yu hcf;have SB:=Yu hB;clear S hC hcf hB;have h1z:(m:Int)-(a:Int)=1:=by omega
 have m1:m≤a+1:=by omega
 have m2:a+1≤m:=by omega
 clear hma
 go_enter Tryz.func149,Tryz.ntmps149
 go_wp2
 go_loopg [10,11] (b-m) (fun kx s10 s11 wr=>∃ (i j:Nat),s10 = .int .i64 i∧s11 = .int .i64 j∧a+1≤i∧i≤j∧j≤b∧j-i≤kx∧Aside (SWK qp 2 w0 blk off d wr)∧Aside (a+1<i→key d[i-1]! < key d[a]!)∧Aside (j<b→key d[a]! ≤ key d[j]!))
 case atStart=>exact⟨m,b,rfl,rfl,by omega,by omega,aD _,aD _,S0,(fun h=>by omega),(fun h=>by omega)⟩
 case round=>
  clear S0;obtain⟨i,j,rfl,rfl,hai,hij,hjb,hkx,S1,HL,HR⟩:=hrel
  by_cases hlt:i<j
  ·have hltz:(i:Int)<(j:Int):=by omega
   have c0:=fun n' os'=>(rC S1.o R hs ((i+j) / 2) (by omega) n' os').1
   have c1:=fun n' os'=>(rC S1.o R hs ((i+j) / 2) (by omega) n' os').2
   have e0:=fun n' os'=>(rC S1.o R hs a (by omega) n' os').1
   have e1:=fun n' os'=>(rC S1.o R hs a (by omega) n' os').2
   have hc:=fun n' os'=>Fy S1.o HC.o hs d[(i+j) / 2]! d[a]! n' os'
   have pa:(0:Int)≤((i:Int)+(j:Int)) / 2:=by omega
   have ba:((i:Int)+(j:Int)) / 2<(d0.size:Int):=by omega
   have ea:(((i:Int)+(j:Int)) / 2).toNat=(i+j) / 2:=by omega
   have b1:(a:Int)<(d0.size:Int):=by omega
   cases hv:decide (cf d[(i+j) / 2]! d[a]! < 0) with
   | true=>
     have HX:=Yu ((HCF.o _ _).1 (aX hv));generalize d[(i+j) / 2]! = x at c0 c1 hc hv;generalize d[a]! = y at e0 e1 hc hv
     go_wp2_with fail
     go_quiet_grown (first|(go_at_fn g;refine fu (hc _ _)))
     have S2:Aside (SWK qp 2 w0 blk off d (grow (wr.drewN nq) osq)):=S1.o.grown nq osq;clear c0 c1 e0 e1 hc S1;generalize grow (wr.drewN nq) osq=w2 at S2 ⊢;clear nq osq;go_wp2
     go_roundg (j-((i+j) / 2+1))
     case measure=>omega
     case rel=>exact⟨(i+j) / 2+1,j,by go_num,rfl,by omega,by omega,hjb,aD _,S2,(fun _=>HX.o),HR⟩
   | false=>
     have HX:=Yu (fun h=>dQ hv ((HCF.o _ _).2 h));generalize d[(i+j) / 2]! = x at c0 c1 hc hv;generalize d[a]! = y at e0 e1 hc hv
     go_wp2_with fail
     go_quiet_grown (first|(go_at_fn g;refine fu (hc _ _)))
     have S2:Aside (SWK qp 2 w0 blk off d (grow (wr.drewN nq) osq)):=S1.o.grown nq osq;clear c0 c1 e0 e1 hc S1;generalize grow (wr.drewN nq) osq=w2 at S2 ⊢;clear nq osq;go_wp2
     go_roundg ((i+j) / 2-i)
     case measure=>omega
     case rel=>exact⟨i,(i+j) / 2,rfl,by go_num,hai,by omega,by omega,aD _,S2,HL,(fun _=>Int.not_lt.1 HX.o)⟩
  ·obtain rfl:i=j:=by omega
   have hltz:¬ (i:Int)<(i:Int):=by omega
   go_wp2
   go_loopg [13] (i-1-a) (fun kx s13 wr=>∃ (k:Nat) (dk:Array qC),s13 = .int .i64 k∧a≤k∧k≤i-1∧i-1-k≤kx∧dk.size=d0.size∧Aside (SWK qp 2 w0 blk off dk wr)∧Aside (∀ t,dk[t]! = d[sw a (a+1) (k+1) t]!))
   case atStart=>exact⟨a,d,rfl,aD _,by omega,aD _,hs,S1,(fun t=>by rw[y8 a (a+1) (a+1) t (by omega) (by omega) (by omega)])⟩
   case round=>
    clear S1;obtain⟨k,dk,rfl,hak,hki,adp,hds,S2,HK⟩:=hrel
    by_cases hlt2:k<i-1
    ·have aad:(k:Int)<(i:Int)-1:=by omega
     have ew:((k:Int)+1).toNat=k+1:=by omega
     have pw:(0:Int)≤(k:Int)+1:=by omega
     have bw:(k:Int)+1<(d0.size:Int):=by omega
     have bw2:(k:Int)<(d0.size:Int):=by omega
     obtain⟨p0,p1,_,_⟩:=sH S2.o.drew R (by omega) k (by omega);obtain⟨q0,q1,_,_⟩:=sH S2.o.drew R (by omega) (k+1) (by omega);obtain⟨_,_,f2,f3⟩:=sH S2.o R (by omega) k (by omega);obtain⟨_,_,g2,g3⟩:=sH S2.o R (by omega) (k+1) (by omega);have q3:=fun u v=>(wP S2.o R (by omega) k (k+1) (by omega) (by omega) u v).1
     have q4:=fun u v=>(wP S2.o R (by omega) k (k+1) (by omega) (by omega) u v).2
     have S3:Aside (SWK qp 2 w0 blk off (swp dk k (k+1)) (LQ wr blk off k (k+1) dk[k+1]! dk[k]!)):=H6 S2.o R k (k+1) (by omega) (by omega);clear S2;generalize dk[k]! = X at *;generalize dk[k+1]! = Y at *
     go_wp2_with fail
     go_big_region_o
     clear p0 p1 q0 q1 f2 f3 g2 g3 q3 q4;rw[Ka];generalize LQ wr blk off k (k+1) Y X=w2 at S3 ⊢;go_wp2
     go_roundg (i-1-(k+1))
     case measure=>omega
     case rel=>exact⟨k+1,swp dk k (k+1),by go_num,by omega,by omega,aD _,by rw[lK];exact hds,S3,TQ (by omega) (by omega) hak HK.o⟩
    ·have aad:¬ (k:Int)<(i:Int)-1:=by omega
     go_wp2;have he:=Mq (key:=key) (d:=d) (d1:=dk) (a:=a) (i:=i) (b:=b) (by omega) hai hjb SB.o (by omega) (fun t=>by rw[HK.o,show k+1=i from by omega]) HL.o HR.o
     (try simp only[Exit.inBlock,Exit.then]);refine bW (gL rfl _ _ _) rfl ?_
     exact⟨rfl,dk,S2.o,he.1,he.2⟩
theorem symMerge.right (g:Nat)(cf:qC→qC→Int)(key:qC→Int)(hcf:∀ x y,cf x y<0↔key x<key y)(eg:∀ args w,(callFunc g args).run Tryz.prog w = .ok (.enter g args) w)
 (blk off cap:Nat) (d0:Array qC) (w0:World) (R:RowK qp 2 w0 blk off d0) (hC:CmpLays Tryz.prog g #[] qp 2 cf blk off d0.size w0) (hsz:d0.size<4611686018427387904)
 (a m b:Nat) (d:Array qC) (w:World) (hmb:b=m+1) (hs:d.size=d0.size) (S:SWK qp 2 w0 blk off d w) (h1:m≠a+1) (ha:a<m) (hb:b≤d0.size) (hA:uf key d a m) :
 Calls Tryz.prog 149 #[.slice (some ⟨blk,off,none⟩) d0.size cap,.int .i64 (a),.int .i64 (m),.int .i64 (b),.func (.func g) #[] #[]] w fun e w'=>e = .returned (.tuple #[])∧∃ d',SWK qp 2 w0 blk off d' w'∧MG key d a b d'∧uf key d' a b:=by
 have mixed:Tryz.prog.follows .mixedOrders=true:=by kernel_rfl
 have S0:Aside (SWK qp 2 w0 blk off d w):=S;have HC:=Yu hC;have HCF:=Yu hcf;have SA:=Yu hA;clear S hC hcf hA;have h1z:¬ (m:Int)-(a:Int)=1:=by omega
 have h1b:((m:Int)-(a:Int)==1)=false:=beq_eq_false_iff_ne.2 h1z;have h2z:(b:Int)-(m:Int)=1:=by omega
 have m1:b≤m+1:=by omega
 have m2:m+1≤b:=by omega
 have HMB:=Yu hmb;clear hmb h1
 go_enter Tryz.func149,Tryz.ntmps149
 go_wp2
 go_loopg [14,15] (m-a) (fun kx s10 s11 wr=>∃ (i j:Nat),s10 = .int .i64 i∧s11 = .int .i64 j∧a≤i∧i≤j∧j≤m∧j-i≤kx∧Aside (SWK qp 2 w0 blk off d wr)∧Aside (a<i→key d[i-1]! ≤ key d[m]!)∧Aside (j<m→key d[m]! < key d[j]!))
 case atStart=>exact⟨a,m,rfl,rfl,aD _,by omega,aD _,aD _,S0,(fun h=>by omega),(fun h=>by omega)⟩
 case round=>
  clear S0;obtain⟨i,j,rfl,rfl,hai,hij,hjb,hkx,S1,HL,HR⟩:=hrel
  by_cases hlt:i<j
  ·have hltz:(i:Int)<(j:Int):=by omega
   have c0:=fun n' os'=>(rC S1.o R hs ((i+j) / 2) (by omega) n' os').1
   have c1:=fun n' os'=>(rC S1.o R hs ((i+j) / 2) (by omega) n' os').2
   have e0:=fun n' os'=>(rC S1.o R hs m (by omega) n' os').1
   have e1:=fun n' os'=>(rC S1.o R hs m (by omega) n' os').2
   have hc:=fun n' os'=>Fy S1.o HC.o hs d[m]! d[(i+j) / 2]! n' os'
   have pa:(0:Int)≤((i:Int)+(j:Int)) / 2:=by omega
   have ba:((i:Int)+(j:Int)) / 2<(d0.size:Int):=by omega
   have ea:(((i:Int)+(j:Int)) / 2).toNat=(i+j) / 2:=by omega
   have b1:(m:Int)<(d0.size:Int):=by omega
   cases hv:decide (cf d[m]! d[(i+j) / 2]! < 0) with
   | false=>
     have HX:=Yu (fun h=>dQ hv ((HCF.o _ _).2 h));generalize d[(i+j) / 2]! = y at c0 c1 hc hv;generalize d[m]! = x at e0 e1 hc hv
     go_wp2_with fail
     go_quiet_grown (first|(go_at_fn g;refine fu (hc _ _)))
     have S2:Aside (SWK qp 2 w0 blk off d (grow (wr.drewN nq) osq)):=S1.o.grown nq osq;clear c0 c1 e0 e1 hc S1;generalize grow (wr.drewN nq) osq=w2 at S2 ⊢;clear nq osq;go_wp2
     go_roundg (j-((i+j) / 2+1))
     case measure=>omega
     case rel=>exact⟨(i+j) / 2+1,j,by go_num,rfl,by omega,by omega,hjb,aD _,S2,(fun _=>Int.not_lt.1 HX.o),HR⟩
   | true=>
     have HX:=Yu ((HCF.o _ _).1 (aX hv));generalize d[(i+j) / 2]! = y at c0 c1 hc hv;generalize d[m]! = x at e0 e1 hc hv
     go_wp2_with fail
     go_quiet_grown (first|(go_at_fn g;refine fu (hc _ _)))
     have S2:Aside (SWK qp 2 w0 blk off d (grow (wr.drewN nq) osq)):=S1.o.grown nq osq;clear c0 c1 e0 e1 hc S1;generalize grow (wr.drewN nq) osq=w2 at S2 ⊢;clear nq osq;go_wp2
     go_roundg ((i+j) / 2-i)
     case measure=>omega
     case rel=>exact⟨i,(i+j) / 2,rfl,by go_num,hai,by omega,by omega,aD _,S2,HL,(fun _=>HX.o)⟩
  ·obtain rfl:i=j:=by omega
   have hltz:¬ (i:Int)<(i:Int):=by omega
   go_wp2
   go_loopg [17] (m-i) (fun kx s13 wr=>∃ (k:Nat) (dk:Array qC),s13 = .int .i64 k∧i≤k∧k≤m∧k-i≤kx∧dk.size=d0.size∧Aside (SWK qp 2 w0 blk off dk wr)∧Aside (∀ t,dk[t]! = d[sw k m (m+1) t]!))
   case atStart=>exact⟨m,d,rfl,by omega,by omega,aD _,hs,S1,(fun t=>by rw[y8 m m (m+1) t (by omega) (by omega) (by omega)])⟩
   case round=>
    clear S1;obtain⟨k,dk,rfl,hak,hki,adp,hds,S2,HK⟩:=hrel
    by_cases hlt2:i<k
    ·obtain⟨kp,rfl⟩:∃ kp,k=kp+1:=⟨k-1,by omega⟩;have aad:((kp+1:Nat):Int)>(i:Int):=by omega
     have aae:(i:Int)<(kp:Int)+1:=by omega
     have ew:((kp:Int)+1).toNat=kp+1:=by omega
     have ew2:((kp:Int)+1-1).toNat=kp:=by omega
     have pw:(0:Int)≤(kp:Int)+1:=by omega
     have bw:(kp:Int)+1<(d0.size:Int):=by omega
     have bw2:(kp:Int)<(d0.size:Int):=by omega
     obtain⟨p0,p1,_,_⟩:=sH S2.o.drew R (by omega) (kp+1) (by omega);obtain⟨q0,q1,_,_⟩:=sH S2.o.drew R (by omega) kp (by omega);obtain⟨_,_,f2,f3⟩:=sH S2.o R (by omega) (kp+1) (by omega);obtain⟨_,_,g2,g3⟩:=sH S2.o R (by omega) kp (by omega);have q3:=fun u v=>(wP S2.o R (by omega) (kp+1) kp (by omega) (by omega) u v).1
     have q4:=fun u v=>(wP S2.o R (by omega) (kp+1) kp (by omega) (by omega) u v).2
     have S3:Aside (SWK qp 2 w0 blk off (swp dk (kp+1) kp) (LQ wr blk off (kp+1) kp dk[kp]! dk[kp+1]!)):=H6 S2.o R (kp+1) kp (by omega) (by omega);clear S2;generalize dk[kp+1]! = X at *;generalize dk[kp]! = Y at *
     go_wp2_with fail
     go_big_region_o
     clear p0 p1 q0 q1 f2 f3 g2 g3 q3 q4;rw[Ka];generalize LQ wr blk off (kp+1) kp Y X=w2 at S3 ⊢;go_wp2
     go_roundg (kp-i)
     case measure=>omega
     case rel=>exact⟨kp,swp dk (kp+1) kp,by go_num,by omega,by omega,aD _,by rw[lK];exact hds,S3,ML (by omega) (by omega) (by omega) HK.o⟩
    ·have aad:¬ ((k:Nat):Int)>(i:Int):=by omega
     have aae:¬ (i:Int)<(k:Int):=by omega
     go_wp2;have hmb:=HMB.o;subst hmb;have he:=Jp (key:=key) (d:=d) (d1:=dk) (a:=a) (i:=i) (m:=m) (by omega) hai hjb SA.o (by omega) (fun t=>by rw[HK.o,show k=i from by omega]) HL.o HR.o
     (try simp only[Exit.inBlock,Exit.then]);refine bW (gL rfl _ _ _) rfl ?_
     exact⟨rfl,dk,S2.o,he.1,he.2⟩
end Go.Proofs.Y.PA

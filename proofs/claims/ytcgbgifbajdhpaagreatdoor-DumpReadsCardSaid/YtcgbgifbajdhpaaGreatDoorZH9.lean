/- Of the law ZHQDumpReads. -/
import Derived.Test.YtcgbgifbajdhpaaGreatDoorZH3
import Derived.Shelf.SlSortCmp.KitK
set_option linter.unusedVariables false
set_option linter.unusedSimpArgs false
set_option maxHeartbeats 16000000
set_option maxRecDepth 1000000
namespace Go
abbrev aM:=@of_decide_eq_true
abbrev aY:=@Go.bodyPost_ret
abbrev dF:=@of_decide_eq_false
abbrev dO:=@Go.results_none
abbrev dR:=@Go.World.cell?_setCell_other
abbrev eG:=@Go.Calls.grown_of
abbrev fJ:=@List.map_append
abbrev gV:=@Int.le_refl
abbrev iR:=@List.mem_cons
abbrev jD:=@Nat.dvd_refl
abbrev jQ:=@List.filter_append
abbrev jR:=@decide_eq_true_iff
abbrev jW:=@List.filter_eq_nil_iff
abbrev jX:=@Nat.dvd_add
abbrev kI:=@Go.Calls.mono
abbrev kS:=@Go.Proofs.AnyQ.insertionSortCmpFunc
abbrev kW:=@Go.Sort.size_swp
abbrev kX:=@Nat.lt_or_eq_of_le
abbrev kY:=@Nat.dvd_zero
abbrev lS:=@or_false
abbrev mR:=@Go.Sort.HoldsK.cell
abbrev mW:=@Nat.eq_or_lt_of_le
abbrev nA:=@List.mem_range'_1
end Go
namespace Go.Proofs.Y.PA
open Go.Sort
section
variable {α:Type} [Inhabited α]
def Gb (d:Array α)(a b:Nat):Nat→Array α
 | 0=>d
 | m+1=>swp (Gb d a b m) (a+m) (b+m)
theorem wE (d:Array α)(a b:Nat):∀ m,(Gb d a b m).size=d.size
 | 0=>rfl
 | m+1=>by rw[Gb,kW,wE d a b m]
def Lx (a b n t:Nat):Nat:=if a≤t∧t<a+n then t+(b-a) else if b≤t∧t<b+n then t-(b-a) else t
theorem yT (d:Array α)(a b:Nat):∀ m,a+m≤b→b+m≤d.size→∀ t,(Gb d a b m)[t]! = d[Lx a b m t]!
 | 0,_,_,t=>by
   rw[Gb,show Lx a b 0 t=t from by unfold Lx;rw[av (by omega),av (by omega)]]
 | m+1,h1,h2,t=>by
   rw[Gb,swp_get _ (by rw[wE];omega) (by rw[wE];omega),yT d a b m (by omega) (by omega),yT d a b m (by omega) (by omega),yT d a b m (by omega) (by omega)]
   by_cases e1:t=b+m
   ·rw[au e1,show Lx a b m (a+m)=Lx a b (m+1) t from by unfold Lx;(repeat' split)<;>omega]
   ·rw[av e1]
    by_cases e2:t=a+m
    ·rw[au e2,show Lx a b m (b+m)=Lx a b (m+1) t from by unfold Lx;(repeat' split)<;>omega]
    ·rw[av e2,show Lx a b m t=Lx a b (m+1) t from by unfold Lx;(repeat' split)<;>omega]
def sP (a m b t:Nat):Nat:=if t<a then t else if t<a+(b-m) then m+(t-a) else if t<b then t-(b-m) else t
theorem Nw (i j m t:Nat)(h:j<i)(hi:i≤m):Lx (m-i) m j (sP (m-(i-j)) m (m+j) t)=sP (m-i) m (m+j) t:=by
 unfold sP Lx
 (repeat' split)<;>omega
theorem JQ (i j m t:Nat)(h:i<j)(hi:i≤m):Lx (m-i) (m+j-i) i (sP (m-i) m (m+(j-i)) t)=sP (m-i) m (m+j) t:=by
 unfold sP Lx
 (repeat' split)<;>omega
theorem Ny (i m t:Nat)(hi:i≤m):Lx (m-i) m i t=sP (m-i) m (m+i) t:=by
 unfold sP Lx
 (repeat' split)<;>omega
theorem zT (a m b t:Nat)(h:a≤m)(h2:m≤b)(h3:a=m∨m=b):sP a m b t=t:=by
 unfold sP
 (repeat' split)<;>omega
def uw (d:Array α)(a b:Nat):List α:=(List.range' a (b-a)).map (d[·]!)
theorem AJ (d:Array α)(a b:Nat):(uw d a b).length=b-a:=by simp[uw]
theorem Cw (d:Array α):uw d 0 d.size=d.toList:=by
 apply gX
 ·simp[uw]
 ·intro i h1 h2;simp[uw] at h1 ⊢;rw[l9 d i (by simpa using h2)]
theorem yS (d:Array α){a b c:Nat}(h1:a≤b)(h2:b≤c):uw d a c=uw d a b++uw d b c:=by
 unfold uw;rw[← fJ];congr 1;have:=List.range'_append_1 (s:=a) (m:=b-a) (n:=c-b);rw[show a+(b-a)=b from by omega] at this;rw[this,show b-a+(c-b)=c-a from by omega]
theorem Cx {d d':Array α}{a b:Nat}(h:∀ t,a≤t→t<b→d'[t]! = d[t]!):uw d' a b=uw d a b:=by
 unfold uw;apply mI;intro t ht;rw[nA] at ht;exact h t ht.1 (by omega)
theorem JR {d d':Array α}{a b n:Nat}(h:∀ t,t<n→d'[a+t]! = d[b+t]!):uw d' a (a+n)=uw d b (b+n):=by
 apply gX
 ·simp[uw]
 ·intro i h1 h2;simp[uw] at h1 ⊢;exact h i h1
theorem Cn {d:Array α}{a b:Nat}{x:α}:x∈uw d a b↔∃ t,a≤t∧t<b∧d[t]! = x:=by
 unfold uw;rw[nH];constructor
 ·rintro⟨t,h1,h2⟩;rw[nA] at h1;exact⟨t,h1.1,by omega,h2⟩
 ·rintro⟨t,h1,h2,h3⟩;exact⟨t,by rw[nA];omega,h3⟩
variable (key:α→Int)
def MG (d:Array α)(a b:Nat)(d':Array α):Prop:=d'.size=d.size∧(∀ t,t<a∨b≤t→d'[t]! = d[t]!)∧∀ v:Int,(uw d' a b).filter (fun x=>decide (key x=v))=(uw d a b).filter (fun x=>decide (key x=v))
def uV (d:Array α)(a b:Nat):Prop:=∀ i j,a≤i→i<j→j<b→key d[i]! ≤ key d[j]!
variable {key}
theorem MG.refl (d:Array α)(a b:Nat):MG key d a b d:=⟨rfl,fun _ _=>rfl,fun _=>rfl⟩
theorem MG.trans {d d' d'':Array α}{a b:Nat}(h:MG key d a b d')(k:MG key d' a b d''):MG key d a b d'' :=
 ⟨k.1.trans h.1,fun t ht=>(k.2.1 t ht).trans (h.2.1 t ht),fun v=>(k.2.2 v).trans (h.2.2 v)⟩
theorem MG.wide {d d':Array α}{a b a' b':Nat}(h:MG key d a b d')(h1:a'≤a)(h2:b≤b')(hab:a≤b):MG key d a' b' d':=by
 refine⟨h.1,fun t ht=>h.2.1 t (by omega),fun v=>?_⟩;rw[yS d' h1 (by omega:a≤b'),yS d' hab h2,yS d h1 (by omega:a≤b'),yS d hab h2];simp only[jQ];rw[h.2.2 v,Cx (d':=d') (d:=d) (fun t h3 h4=>h.2.1 t (.inl h4)),Cx (d':=d') (d:=d) (fun t h3 h4=>h.2.1 t (.inr h3))]
theorem MG.from_ {d d':Array α}{a b:Nat}(h:MG key d a b d')(t:Nat)(h1:a≤t)(h2:t<b):∃ s,a≤s∧s<b∧d[s]! = d'[t]! := by
 have hm:d'[t]! ∈ (uw d' a b).filter (fun x=>decide (key x=key d'[t]!)):=List.mem_filter.2 ⟨Cn.2 ⟨t,h1,h2,rfl⟩,by simp⟩;rw[h.2.2] at hm;exact Cn.1 (List.mem_filter.1 hm).1
theorem MG.Y1 {d d':Array α}{a m b:Nat}(hs:d'.size=d.size)(h1:a≤m)(h2:m≤b)(hr:∀ t,d'[t]! = d[sP a m b t]!)(hk:∀ i j,a≤i→i<m→m≤j→j<b→key d[j]! < key d[i]!):MG key d a b d':=by
 refine⟨hs,fun t ht=>by rw[hr,show sP a m b t=t from by unfold sP;(repeat' split)<;>omega],fun v=>?_⟩;have e1:uw d' a (a+(b-m))=uw d m (m+(b-m)):=JR (fun t ht=>by rw[hr,show sP a m b (a+t)=m+t from by unfold sP;(repeat' split)<;>omega]);have e2:uw d' (a+(b-m)) (a+(b-m)+(m-a))=uw d a (a+(m-a)):=JR (fun t ht=>by rw[hr,show sP a m b (a+(b-m)+t)=a+t from by unfold sP;(repeat' split)<;>omega]);rw[show m+(b-m)=b from by omega] at e1;rw[show a+(b-m)+(m-a)=b from by omega,show a+(m-a)=m from by omega] at e2;rw[yS d' (by omega:a≤a+(b-m)) (by omega:a+(b-m)≤b),e1,e2,yS d h1 h2,jQ,jQ]
 by_cases hA:∃ x∈uw d a m,key x=v
 ·obtain⟨x,hx,hv⟩:=hA;obtain⟨i,i1,i2,rfl⟩:=Cn.1 hx;have:(uw d m b).filter (fun x=>decide (key x=v))=[]:=by
   rw[jW];intro y hy;obtain⟨j,j1,j2,rfl⟩:=Cn.1 hy;have:=hk i j i1 i2 j1 j2;simp;omega
  rw[this];simp
 ·have:(uw d a m).filter (fun x=>decide (key x=v))=[]:=by
   rw[jW];intro y hy;simp;exact fun e=>hA ⟨y,hy,e⟩
  rw[this];simp
theorem MG.nb {d:Array α}{i:Nat}(hi:i+1<d.size)(hk:key d[i+1]! < key d[i]!):MG key d i (i+2) (swp d i (i+1)):=by
 refine MG.Y1 (m:=i+1) (kW _ _ _) (by omega) (by omega) (fun t=>?_) (fun p q h1 h2 h3 h4=>?_)
 ·rw[swp_get d (by omega) hi]
  by_cases e1:t=i+1
  ·rw[au e1,show sP i (i+1) (i+2) t=i from by unfold sP;(repeat' split)<;>omega]
  ·rw[av e1]
   by_cases e2:t=i
   ·rw[au e2,show sP i (i+1) (i+2) t=i+1 from by unfold sP;(repeat' split)<;>omega]
   ·rw[av e2,show sP i (i+1) (i+2) t=t from by unfold sP;(repeat' split)<;>omega]
 ·obtain rfl:p=i:=by omega
  obtain rfl:q=p+1:=by omega
  exact hk
theorem RO (d:Array α){i j:Nat}(hi:i<d.size)(hj:j<d.size):swp d i j=swp d j i:=by
 apply Array.ext
 ·simp[kW]
 ·intro t h1 h2;have:=swp_get d hi hj t;have h:=swp_get d hj hi t;rw[l9 _ t h1] at this;rw[l9 _ t h2] at h;rw[this,h]
  by_cases e1:t=j<;>by_cases e2:t=i<;>simp_all
variable {lt:α→α→Bool}
theorem FY (hlt:∀ x y,lt x y=true→key x<key y)(a:Nat):∀ j (d:Array α),a≤j→j<d.size→MG key d a (j+1) (insInner lt a j d)
 | 0,d,_,_=>by rw[insInner];exact MG.refl _ _ _
 | j+1,d,h,hj=>by
   rw[insInner];split
   ·rename_i hc;simp only[dw,fM] at hc;have h1:MG key d j (j+2) (swp d (j+1) j):=by
     rw[RO d hj (by omega)];exact MG.nb hj (hlt _ _ hc.2)
    have h2:=FY hlt a j (swp d (j+1) j) (by omega) (by rw[kW];omega);exact (h1.wide (by omega) (by omega) (by omega)).trans (h2.wide (ay _) (by omega) (by omega))
   ·exact MG.refl _ _ _
theorem CZ (a:Nat):∀ j (d:Array α),(insInner lt a j d).size=d.size
 | 0,d=>by rw[insInner]
 | j+1,d=>by
   rw[insInner];split
   ·rw[CZ a j,kW]
   ·rfl
theorem FZ (hlt:∀ x y,lt x y=true→key x<key y)(a b:Nat):∀ n i (d:Array α),b-i=n→a≤i→i≤b→b≤d.size→MG key d a b (insOuter lt a b i d)
 | 0,i,d,hn,h1,h2,h3=>by
   rw[insOuter,av (by omega)];exact MG.refl _ _ _
 | n+1,i,d,hn,h1,h2,h3=>by
   rw[insOuter,au (by omega)];have k1:=FY hlt a i d h1 (by omega);have k2:=FZ hlt a b n (i+1) (insInner lt a i d) (by omega) (by omega) (by omega) (by rw[CZ];omega);exact (k1.wide (ay _) (by omega) (by omega)).trans k2
theorem Fa (hlt:∀ x y,lt x y=true→key x<key y)(d:Array α)(a b:Nat)(hab:a≤b)(hb:b≤d.size):MG key d a b (insertionSort lt d a b):=by
 unfold insertionSort
 by_cases h:a+1≤b
 ·exact FZ hlt a b _ (a+1) d rfl (by omega) h hb
 ·rw[insOuter,av (by omega)];exact MG.refl _ _ _
theorem KO (hlt:∀ x y,lt x y=true↔key x<key y)(d:Array α)(a b:Nat)(hab:a≤b)(hb:b≤d.size):uV key (insertionSort lt d a b) a b:=by
 have hf:∀ x y,lt x y=false↔key y≤key x:=fun x y=>by
  rw[← Bool.not_eq_true,hlt];omega
 have hS:SWO lt:=⟨fun x=>by rw[hf];omega,fun x y z h1 h2=>by rw[hlt] at *;omega,fun x y z h1 h2=>by rw[hf] at *;omega⟩;have:=(insertionSort_holds hS d a b hab hb).2;intro i j h1 h2 h3;exact (hf _ _).1 (this i j h1 h2 h3)
theorem yg {d d1 d2 d3:Array α}{a s m e b q:Nat}(hb:b≤d.size)(h1:a≤s)(h2:s≤m)(h3:m≤e)(h4:e≤b)(hq:q=s+(e-m))(hA:uV key d a m)(hB:uV key d m b)(hs1:d1.size=d.size)(hr:∀ t,d1[t]! = d[sP s m e t]!)
 (hL:a<s→e<b→key d[s-1]! ≤ key d[e]!) (hR:s<m→m<e→key d[e-1]! < key d[s]!) (k2:MG key d1 a q d2) (s2:uV key d2 a q) (k3:MG key d2 q b d3) (s3:uV key d3 q b):MG key d a b d3∧uV key d3 a b:=by
 have hAA:∀ i j,a≤i→i≤j→j<m→key d[i]! ≤ key d[j]! := fun i j x y z=>by
  rcases kX y with y | rfl
  ·exact hA i j x y z
  ·exact gV _
 have hBB:∀ i j,m≤i→i≤j→j<b→key d[i]! ≤ key d[j]! := fun i j x y z=>by
  rcases kX y with y | rfl
  ·exact hB i j x y z
  ·exact gV _
 have k1:MG key d s e d1:=MG.Y1 hs1 h2 h3 hr (fun i j x1 x2 x3 x4=>by
  have:=hR (by omega) (by omega);have y1:=hAA s i h1 x1 x2;have y2:=hBB j (e-1) x3 (by omega) (by omega);omega)
 refine⟨(k1.wide h1 h4 (by omega)).trans ((k2.wide (ay _) (by omega) (by omega)).trans (k3.wide (by omega) (ay _) (by omega))),fun i j x1 x2 x3=>?_⟩;have cross:∀ p r,a≤p→p<q→q≤r→r<b→key d1[p]! ≤ key d1[r]! := fun p r y1 y2 y3 y4=>by
  rw[hr p,hr r]
  by_cases c1:p<s
  ·rw[show sP s m e p=p from by unfold sP;rw[au c1]]
   by_cases c2:r<e
   ·rw[show sP s m e r=r-(e-m) from by unfold sP;rw[av (by omega),av (by omega),au c2]];exact hAA _ _ y1 (by omega) (by omega)
   ·rw[show sP s m e r=r from by unfold sP;rw[av (by omega),av (by omega),av c2]];have z1:=hL (by omega) (by omega);have z2:=hAA p (s-1) y1 (by omega) (by omega);have z3:=hBB e r (by omega) (by omega) y4;omega
  ·rw[show sP s m e p=m+(p-s) from by unfold sP;rw[av c1,au (by omega)]]
   by_cases c2:r<e
   ·rw[show sP s m e r=r-(e-m) from by unfold sP;rw[av (by omega),av (by omega),au c2]];have z1:=hR (by omega) (by omega);have z2:=hBB (m+(p-s)) (e-1) (by omega) (by omega) (by omega);have z3:=hAA s (r-(e-m)) h1 (by omega) (by omega);omega
   ·rw[show sP s m e r=r from by unfold sP;rw[av (by omega),av (by omega),av c2]];exact hBB _ _ (by omega) (by omega) y4
 by_cases c1:j<q
 ·rw[k3.2.1 i (.inl (by omega)),k3.2.1 j (.inl c1)];exact s2 i j x1 x2 c1
 ·by_cases c2:q≤i
  ·exact s3 i j c2 x2 x3
  ·rw[k3.2.1 i (.inl (by omega))];obtain⟨p,p1,p2,p3⟩:=k2.from_ i x1 (by omega);obtain⟨r,r1,r2,r3⟩:=k3.from_ j (by omega) x3;rw[k2.2.1 r (.inr r1)] at r3;rw[← p3,← r3];exact cross p r p1 p2 r1 r2
theorem Nb {d d1:Array α}{a i b:Nat}(hb:b≤d.size)(h1:a+1≤i)(h2:i≤b)(hB:uV key d (a+1) b)(hs1:d1.size=d.size)(hr:∀ t,d1[t]! = d[sP a (a+1) i t]!)(hL:a+1<i→key d[i-1]! < key d[a]!)(hR:i<b→key d[a]! ≤ key d[i]!):MG key d a b d1∧uV key d1 a b:=by
 have k:=yg (key:=key) (d:=d) (d1:=d1) (d2:=d1) (d3:=d1) (a:=a) (s:=a) (m:=a+1) (e:=i) (b:=b) (q:=a+(i-(a+1))) hb (ay _) (by omega) h1 h2 rfl (fun i j _ _ _=>by omega) hB hs1 hr (fun h=>by omega) (fun _ h=>hL h) (MG.refl _ _ _) (fun x y x1 x2 x3=>?_) (MG.refl _ _ _) (fun x y x1 x2 x3=>?_)
 ·exact k
 ·rw[hr,hr,show sP a (a+1) i x=a+1+(x-a) from by unfold sP;rw[av (by omega),au (by omega)],show sP a (a+1) i y=a+1+(y-a) from by unfold sP;rw[av (by omega),au (by omega)]];exact hB _ _ (by omega) (by omega) (by omega)
 ·rw[hr,hr,show sP a (a+1) i y=y from by unfold sP;rw[av (by omega),av (by omega),av (by omega)]]
  by_cases c:x<i
  ·rw[show sP a (a+1) i x=a from by unfold sP;(repeat' split)<;>omega];rcases mW (show i≤y from by omega) with rfl | c2
   ·exact hR (by omega)
   ·have:=hR (by omega);have:=hB i y (by omega) c2 x3;omega
  ·rw[show sP a (a+1) i x=x from by unfold sP;rw[av (by omega),av (by omega),av (by omega)]];exact hB _ _ (by omega) x2 x3
theorem JJ {d d1:Array α}{a i m:Nat}(hb:m+1≤d.size)(h1:a≤i)(h2:i≤m)(hA:uV key d a m)(hs1:d1.size=d.size)(hr:∀ t,d1[t]! = d[sP i m (m+1) t]!)(hL:a<i→key d[i-1]! ≤ key d[m]!)(hR:i<m→key d[m]! < key d[i]!):MG key d a (m+1) d1∧uV key d1 a (m+1):=by
 have k:=yg (key:=key) (d:=d) (d1:=d1) (d2:=d1) (d3:=d1) (a:=a) (s:=i) (m:=m) (e:=m+1) (b:=m+1) (q:=i+1) hb h1 h2 (by omega) (ay _) (by omega) hA (fun i j _ _ _=>by omega) hs1 hr (fun _ h=>by omega) (fun h _=>hR h) (MG.refl _ _ _) (fun x y x1 x2 x3=>?_) (MG.refl _ _ _) (fun x y x1 x2 x3=>?_)
 ·exact k
 ·rw[hr,hr,show sP i m (m+1) x=x from by unfold sP;rw[au (by omega)]]
  by_cases c:y<i
  ·rw[show sP i m (m+1) y=y from by unfold sP;rw[au c]];exact hA _ _ x1 x2 (by omega)
  ·rw[show sP i m (m+1) y=m from by unfold sP;rw[av c,au (by omega)];omega];rcases mW (show x+1≤i from by omega) with c2 | c2
   ·have:=hL (by omega);rw[show i-1=x from by omega] at this;exact this
   ·have:=hL (by omega);have:=hA x (i-1) x1 (by omega) (by omega);omega
 ·rw[hr,hr,show sP i m (m+1) x=x-1 from by unfold sP;rw[av (by omega),av (by omega),au (by omega)];omega,show sP i m (m+1) y=y-1 from by unfold sP;rw[av (by omega),av (by omega),au (by omega)];omega];exact hA _ _ (by omega) (by omega) (by omega)
end
end Go.Proofs.Y.PA
namespace Go.Proofs.Y.PA
open Go.Shelf Go.RowKit Go.Lib Go.Sort
instance:Inhabited qG:=⟨z70⟩
def qy (x:qG):List Value:=[.int .i64 x.f0,.int .u64 x.f1]
theorem Tj (x:qG):(qy x).length=2:=rfl
theorem Ht (x:qG):∀ v∈qy x,v.oneCell'=true:=by
 intro v hv;simp only[qy,iR,gY,lS] at hv;rcases hv with rfl | rfl<;>rfl
section
variable {w0 W:World} {blk off:Nat} {d0 dk:Array qG}
theorem tN (h:SWK qy 2 w0 blk off dk W)(R:RowK qy 2 w0 blk off d0)(hs:dk.size=d0.size)(i:Nat)(hi:i<dk.size) :
 W.cell? ⟨blk,off+i*2,none⟩=some (.int .i64 dk[i]!.f0)∧W.cell? ⟨blk,off+i*2+1,none⟩=some (.int .u64 dk[i]!.f1)∧W.frozen? ⟨blk,off+i*2,none⟩=false∧W.frozen? ⟨blk,off+i*2+1,none⟩=false:=by
 have H:=h.holds R.hblk R.hH hs;have h0:=mR H (c:=0) hi (by omega);have h1:=mR H (c:=1) hi (by omega);exact⟨h0.1,h1.1,h0.2,h1.2⟩
def MF (W:World)(blk off i j:Nat)(x y:qG):World:=((((W.setCell ⟨blk,off+i*2,none⟩ (.int .i64 x.f0)).setCell ⟨blk,off+i*2+1,none⟩ (.int .u64 x.f1)).setCell ⟨blk,off+j*2,none⟩ (.int .i64 y.f0)).setCell ⟨blk,off+j*2+1,none⟩ (.int .u64 y.f1)).drew
theorem KF (W:World)(blk off i j:Nat)(x y:qG):((((W.setCell ⟨blk,off+i*2,none⟩ (.int .i64 x.f0)).setCell ⟨blk,off+i*2+1,none⟩ (.int .u64 x.f1)).setCell ⟨blk,off+j*2,none⟩ (.int .i64 y.f0)).setCell ⟨blk,off+j*2+1,none⟩ (.int .u64 y.f1)).drew=MF W blk off i j x y:=rfl
theorem IL (h:SWK qy 2 w0 blk off dk W)(R:RowK qy 2 w0 blk off d0)(i j:Nat)(hi:i<dk.size)(hj:j<dk.size):SWK qy 2 w0 blk off (swp dk i j) (MF W blk off i j dk[j]! dk[i]!):=h.swapped R i j hi hj
theorem yh (h:SWK qy 2 w0 blk off dk W)(R:RowK qy 2 w0 blk off d0)(hs:dk.size=d0.size)(i j:Nat)(hij:i≠j)(hj:j<dk.size)(u v:Value) :
 ((W.setCell ⟨blk,off+i*2,none⟩ u).setCell ⟨blk,off+i*2+1,none⟩ v).drew.cell? ⟨blk,off+j*2,none⟩=some (.int .i64 dk[j]!.f0)∧((W.setCell ⟨blk,off+i*2,none⟩ u).setCell ⟨blk,off+i*2+1,none⟩ v).drew.cell? ⟨blk,off+j*2+1,none⟩=some (.int .u64 dk[j]!.f1):=by
 obtain⟨q0,q1,_,_⟩:=tN h R hs j hj;constructor
 ·show ((W.setCell _ u).setCell _ v).cell? _=_;rw[dR _ _ _ _ (by intro e;injection e with _ e _;omega),dR _ _ _ _ (by intro e;injection e with _ e _;omega)];exact q0
 ·show ((W.setCell _ u).setCell _ v).cell? _=_;rw[dR _ _ _ _ (by intro e;injection e with _ e _;omega),dR _ _ _ _ (by intro e;injection e with _ e _;omega)];exact q1
theorem GI {cf:qG→qG→Int}{g:Nat}(h:SWK qy 2 w0 blk off dk W)(hC:CmpLays Tryz.prog g #[] qy 2 cf blk off d0.size w0)(hs:dk.size=d0.size)(x y:qG)(n:Nat)(os:Array Obj) :
 Calls Tryz.prog g #[.agg #[.int .i64 x.f0,.int .u64 x.f1],.agg #[.int .i64 y.f0,.int .u64 y.f1]] (grow (W.drewN n) os) fun e w'=>e = .returned (.int .i64 (cf x y))∧∃ q os',w'=grow ((grow (W.drewN n) os).drewN q) os' :=
 h.cmp hC hs x y n os
theorem rU (h:SWK qy 2 w0 blk off dk W)(R:RowK qy 2 w0 blk off d0)(hs:dk.size=d0.size)(i:Nat)(hi:i<dk.size)(n:Nat)(os:Array Obj) :
 (grow (W.drewN n) os).cell? ⟨blk,off+i*2,none⟩=some (.int .i64 dk[i]!.f0)∧(grow (W.drewN n) os).cell? ⟨blk,off+i*2+1,none⟩=some (.int .u64 dk[i]!.f1):=
 ⟨(tN (h.grown n os) R hs i hi).1,(tN (h.grown n os) R hs i hi).2.1⟩
end
theorem swapRange.c (g:Nat)(blk off cap a b n:Nat)(d0 d:Array qG)(w0 w:World)(R:RowK qy 2 w0 blk off d0)(hs:d0.size=d.size)(S:SWK qy 2 w0 blk off d w)(ha:a+n≤b)(hb:b+n≤d.size)(hsz:d.size<4611686018427387904) :
 Calls Tryz.prog 159 #[.slice (some ⟨blk,off,none⟩) d.size cap,.int .i64 a,.int .i64 b,.int .i64 n,.func (.func g) #[] #[]] w fun e w'=>e = .returned (.tuple #[])∧SWK qy 2 w0 blk off (Gb d a b n) w':=by
 have mixed:Tryz.prog.follows .mixedOrders=true:=by kernel_rfl
 have S0:Aside (SWK qy 2 w0 blk off d w):=S;clear S
 go_enter Tryz.func159,Tryz.ntmps159
 go_wp2
 go_loopg [10] n (fun kx s wr=>∃ (m:Nat),s = .int .i64 m∧m≤n∧n-m≤kx∧Aside (SWK qy 2 w0 blk off (Gb d a b m) wr))
 case atStart=>exact⟨0,rfl,by omega,by omega,S0⟩
 case round=>
  clear S0;obtain⟨m,rfl,hm,hkx,S1⟩:=hrel
  by_cases hlt:(m:Int)<(n:Int)
  ·have hds:=wE d a b m;generalize hdk:Gb d a b m=dk at S1 hds;have ea44:((a:Int)+(m:Int)).toNat=a+m:=by omega
   have pa44:(0:Int)≤(a:Int)+(m:Int):=by omega
   have ba44:(a:Int)+(m:Int)<(d.size:Int):=by omega
   have ra44:IntKind.i64.wrap ((a:Int)+(m:Int))=(a:Int)+(m:Int):=by rw[bD];omega
   have ec44:((b:Int)+(m:Int)).toNat=b+m:=by omega
   have pc44:(0:Int)≤(b:Int)+(m:Int):=by omega
   have bc44:(b:Int)+(m:Int)<(d.size:Int):=by omega
   have rc44:IntKind.i64.wrap ((b:Int)+(m:Int))=(b:Int)+(m:Int):=by rw[bD];omega
   have S2:Aside (SWK qy 2 w0 blk off (swp dk (a+m) (b+m)) (MF wr blk off (a+m) (b+m) dk[b+m]! dk[a+m]!)):=IL S1.o R (a+m) (b+m) (by omega) (by omega);obtain⟨p0,p1,_,_⟩:=tN S1.o.drew R (by omega) (a+m) (by omega);obtain⟨q0,q1,_,_⟩:=tN S1.o.drew R (by omega) (b+m) (by omega);obtain⟨_,_,f2,f3⟩:=tN S1.o R (by omega) (a+m) (by omega);obtain⟨_,_,g2,g3⟩:=tN S1.o R (by omega) (b+m) (by omega);have q3:=fun u v=>(yh S1.o R (by omega) (a+m) (b+m) (by omega) (by omega) u v).1
   have q4:=fun u v=>(yh S1.o R (by omega) (a+m) (b+m) (by omega) (by omega) u v).2
   generalize dk[a+m]! = X at *;generalize dk[b+m]! = Y at *;clear S1
   go_wp2_with fail
   go_big_region_o
   clear p0 p1 q0 q1 f2 f3 g2 g3 q3 q4;rw[KF];generalize MF wr blk off (a+m) (b+m) Y X=w2 at S2 ⊢;have S3:Aside (SWK qy 2 w0 blk off (Gb d a b (m+1)) w2):=by rw[Gb,hdk];exact S2
   clear S2;go_wp2
   go_roundg (n-(m+1))
   case measure=>omega
   case rel=>exact⟨m+1,by go_num,by omega,ay _,S3⟩
  ·obtain rfl:m=n:=by omega
   go_wp2;go_end0;exact⟨rfl,S1.o⟩
theorem rotate.c (g:Nat)(blk off cap a m b:Nat)(d0 d:Array qG)(w0 w:World)(R:RowK qy 2 w0 blk off d0)(hs:d0.size=d.size)(S:SWK qy 2 w0 blk off d w)(ha:a<m)(hm:m<b)(hb:b≤d.size)(hsz:d.size<4611686018427387904) :
 Calls Tryz.prog 155 #[.slice (some ⟨blk,off,none⟩) d.size cap,.int .i64 a,.int .i64 m,.int .i64 b,.func (.func g) #[] #[]] w fun e w'=>e = .returned (.tuple #[])∧∃ d',SWK qy 2 w0 blk off d' w'∧d'.size=d.size∧∀ t,d'[t]! = d[sP a m b t]! := by
 have mixed:Tryz.prog.follows .mixedOrders=true:=by kernel_rfl
 have S0:Aside (SWK qy 2 w0 blk off d w):=S;clear S
 go_enter Tryz.func155,Tryz.ntmps155
 go_wp2
 go_loopg [10,11] b (fun kx s10 s11 wr=>∃ (i j:Nat) (dk:Array qG),s10 = .int .i64 i∧s11 = .int .i64 j∧0<i∧0<j∧i≤m∧m+j≤d.size∧i+j≤kx∧dk.size=d.size∧Aside (SWK qy 2 w0 blk off dk wr)∧Aside (∀ t,dk[sP (m-i) m (m+j) t]! = d[sP a m b t]!))
 case atStart=>exact⟨m-a,b-m,d,by go_num,by go_num,by omega,by omega,by omega,by omega,by omega,rfl,S0,by show ∀ t,_;intro t;rw[show m-(m-a)=a from by omega,show m+(b-m)=b from by omega]⟩
 case round=>
  clear S0;obtain⟨i,j,dk,rfl,rfl,hi,hj,him,hmj,hkx,hds,S1,HR⟩:=hrel;have rw1:IntKind.i64.wrap ((m:Int)-(i:Int))=((m-i:Nat):Int):=by rw[bD];omega
  have rw2:(m:Int)-(i:Int)=((m-i:Nat):Int):=by omega
  by_cases hij:i=j
  ·subst hij;have hc:=swapRange.c g blk off cap (m-i) m i d0 dk w0 wr R (by omega) S1.o (by omega) (by omega) (by omega);rw[hds] at hc;have HC:=Y7 hc;clear hc
   go_wp2_with (first|(go_at_call 159;refine HC.o.mono ?_;rintro e w1 ⟨rfl,hS⟩;have S2:Aside (SWK qy 2 w0 blk off (Gb dk (m-i) m i) w1):=hS;clear hS))
   go_end0;refine⟨rfl,_,S2.o,by rw[wE];exact hds,fun t=>?_⟩;rw[yT dk _ _ i (by omega) (by omega),Ny i m t him];exact HR.o t
  ·by_cases hlt:j<i
   ·have hgz:(i:Int)>(j:Int):=by omega
    have hne:¬ (i:Int)=(j:Int):=by omega
    have hc:=swapRange.c g blk off cap (m-i) m j d0 dk w0 wr R (by omega) S1.o (by omega) (by omega) (by omega);rw[hds] at hc;have HC:=Y7 hc;clear hc
    go_wp2_with (first|(go_at_call 159;refine HC.o.mono ?_;rintro e w1 ⟨rfl,hS⟩;have S2:Aside (SWK qy 2 w0 blk off (Gb dk (m-i) m j) w1):=hS;clear hS))
    go_roundg (i+j-1)
    case measure=>omega
    case rel=>
     refine⟨i-j,j,Gb dk (m-i) m j,by go_num,rfl,by omega,hj,by omega,hmj,by omega,by rw[wE];exact hds,S2,?_⟩;show ∀ t,_;intro t;rw[yT dk _ _ j (by omega) (by omega),Nw i j m t hlt him];exact HR.o t
   ·have hgz:¬ (i:Int)>(j:Int):=by omega
    have hne:¬ (i:Int)=(j:Int):=by omega
    have rw3:(m:Int)+(j:Int)-(i:Int)=((m+j-i:Nat):Int):=by omega
    have hc:=swapRange.c g blk off cap (m-i) (m+j-i) i d0 dk w0 wr R (by omega) S1.o (by omega) (by omega) (by omega);rw[hds] at hc;have HC:=Y7 hc;clear hc
    go_wp2_with (first|(go_at_call 159;refine HC.o.mono ?_;rintro e w1 ⟨rfl,hS⟩;have S2:Aside (SWK qy 2 w0 blk off (Gb dk (m-i) (m+j-i) i) w1):=hS;clear hS))
    go_roundg (i+j-1)
    case measure=>omega
    case rel=>
     refine⟨i,j-i,Gb dk (m-i) (m+j-i) i,rfl,by go_num,hi,by omega,him,by omega,by omega,by rw[wE];exact hds,S2,?_⟩;show ∀ t,_;intro t;rw[yT dk _ _ i (by omega) (by omega),JQ i j m t (by omega) him];exact HR.o t
theorem UJ {α:Type}[Inhabited α]{d dk:Array α}{a k:Nat}(hs:dk.size=d.size)(hk:k+1<d.size)(ha:a≤k)(h:∀ t,dk[t]! = d[sP a (a+1) (k+1) t]!):∀ t,(swp dk k (k+1))[t]! = d[sP a (a+1) (k+1+1) t]! := fun t=>by
 rw[swp_get dk (by omega) (by omega),h,h,h]
 by_cases e1:t=k+1
 ·rw[au e1,show sP a (a+1) (k+1) k=sP a (a+1) (k+1+1) t from by unfold sP;(repeat' split)<;>omega]
 ·rw[av e1]
  by_cases e2:t=k
  ·rw[au e2,show sP a (a+1) (k+1) (k+1)=sP a (a+1) (k+1+1) t from by unfold sP;(repeat' split)<;>omega]
  ·rw[av e2,show sP a (a+1) (k+1) t=sP a (a+1) (k+1+1) t from by unfold sP;(repeat' split)<;>omega]
theorem Nv {α:Type}[Inhabited α]{d dk:Array α}{m k:Nat}(hs:dk.size=d.size)(hk:k+1<d.size)(ha:k+1≤m)(h:∀ t,dk[t]! = d[sP (k+1) m (m+1) t]!):∀ t,(swp dk (k+1) k)[t]! = d[sP k m (m+1) t]! := fun t=>by
 rw[swp_get dk (by omega) (by omega),h,h,h]
 by_cases e1:t=k
 ·rw[au e1,show sP (k+1) m (m+1) (k+1)=sP k m (m+1) t from by unfold sP;(repeat' split)<;>omega]
 ·rw[av e1]
  by_cases e2:t=k+1
  ·rw[au e2,show sP (k+1) m (m+1) k=sP k m (m+1) t from by unfold sP;(repeat' split)<;>omega]
  ·rw[av e2,show sP (k+1) m (m+1) t=sP k m (m+1) t from by unfold sP;(repeat' split)<;>omega]
def FM (g:Nat)(cf:qG→qG→Int)(key:qG→Int)(blk off cap:Nat)(d0:Array qG)(w0:World)(n:Nat):Prop:=
 ∀ (a m b:Nat) (d:Array qG) (w:World),b-a≤n→d.size=d0.size→SWK qy 2 w0 blk off d w→a<m→m<b→b≤d0.size→uV key d a m→uV key d m b →
 Calls Tryz.prog 149 #[.slice (some ⟨blk,off,none⟩) d0.size cap,.int .i64 a,.int .i64 m,.int .i64 b,.func (.func g) #[] #[]] w fun e w'=>e = .returned (.tuple #[])∧∃ d',SWK qy 2 w0 blk off d' w'∧MG key d a b d'∧uV key d' a b
theorem symMerge.left (g:Nat)(cf:qG→qG→Int)(key:qG→Int)(hcf:∀ x y,cf x y<0↔key x<key y)(eg:∀ args w,(callFunc g args).run Tryz.prog w = .ok (.enter g args) w)
 (blk off cap:Nat) (d0:Array qG) (w0:World) (R:RowK qy 2 w0 blk off d0) (hC:CmpLays Tryz.prog g #[] qy 2 cf blk off d0.size w0) (hsz:d0.size<4611686018427387904)
 (a m b:Nat) (d:Array qG) (w:World) (hma:m=a+1) (hs:d.size=d0.size) (S:SWK qy 2 w0 blk off d w) (hm:a+1<b) (hb:b≤d0.size) (hB:uV key d (a+1) b) :
 Calls Tryz.prog 149 #[.slice (some ⟨blk,off,none⟩) d0.size cap,.int .i64 (a),.int .i64 (m),.int .i64 (b),.func (.func g) #[] #[]] w fun e w'=>e = .returned (.tuple #[])∧∃ d',SWK qy 2 w0 blk off d' w'∧MG key d a (b) d'∧uV key d' a (b):=by
 have mixed:Tryz.prog.follows .mixedOrders=true:=by kernel_rfl
 have S0:Aside (SWK qy 2 w0 blk off d w):=S;have HC:=Y7 hC;have HCF:=Y7 hcf;have SB:=Y7 hB;clear S hC hcf hB;have h1z:(m:Int)-(a:Int)=1:=by omega
 have m1:m≤a+1:=by omega
 have m2:a+1≤m:=by omega
 clear hma
 go_enter Tryz.func149,Tryz.ntmps149
 go_wp2
 go_loopg [10,11] (b-m) (fun kx s10 s11 wr=>∃ (i j:Nat),s10 = .int .i64 i∧s11 = .int .i64 j∧a+1≤i∧i≤j∧j≤b∧j-i≤kx∧Aside (SWK qy 2 w0 blk off d wr)∧Aside (a+1<i→key d[i-1]! < key d[a]!)∧Aside (j<b→key d[a]! ≤ key d[j]!))
 case atStart=>exact⟨m,b,rfl,rfl,by omega,by omega,ay _,ay _,S0,(fun h=>by omega),(fun h=>by omega)⟩
 case round=>
  clear S0;obtain⟨i,j,rfl,rfl,hai,hij,hjb,hkx,S1,HL,HR⟩:=hrel
  by_cases hlt:i<j
  ·have hltz:(i:Int)<(j:Int):=by omega
   have c0:=fun n' os'=>(rU S1.o R hs ((i+j) / 2) (by omega) n' os').1
   have c1:=fun n' os'=>(rU S1.o R hs ((i+j) / 2) (by omega) n' os').2
   have e0:=fun n' os'=>(rU S1.o R hs a (by omega) n' os').1
   have e1:=fun n' os'=>(rU S1.o R hs a (by omega) n' os').2
   have hc:=fun n' os'=>GI S1.o HC.o hs d[(i+j) / 2]! d[a]! n' os'
   have pa:(0:Int)≤((i:Int)+(j:Int)) / 2:=by omega
   have ba:((i:Int)+(j:Int)) / 2<(d0.size:Int):=by omega
   have ea:(((i:Int)+(j:Int)) / 2).toNat=(i+j) / 2:=by omega
   have b1:(a:Int)<(d0.size:Int):=by omega
   cases hv:decide (cf d[(i+j) / 2]! d[a]! < 0) with
   | true=>
     have HX:=Y7 ((HCF.o _ _).1 (aM hv));generalize d[(i+j) / 2]! = x at c0 c1 hc hv;generalize d[a]! = y at e0 e1 hc hv
     go_wp2_with fail
     go_quiet_grown (first|(go_at_fn g;refine eG (hc _ _)))
     have S2:Aside (SWK qy 2 w0 blk off d (grow (wr.drewN nq) osq)):=S1.o.grown nq osq;clear c0 c1 e0 e1 hc S1;generalize grow (wr.drewN nq) osq=w2 at S2 ⊢;clear nq osq;go_wp2
     go_roundg (j-((i+j) / 2+1))
     case measure=>omega
     case rel=>exact⟨(i+j) / 2+1,j,by go_num,rfl,by omega,by omega,hjb,ay _,S2,(fun _=>HX.o),HR⟩
   | false=>
     have HX:=Y7 (fun h=>dF hv ((HCF.o _ _).2 h));generalize d[(i+j) / 2]! = x at c0 c1 hc hv;generalize d[a]! = y at e0 e1 hc hv
     go_wp2_with fail
     go_quiet_grown (first|(go_at_fn g;refine eG (hc _ _)))
     have S2:Aside (SWK qy 2 w0 blk off d (grow (wr.drewN nq) osq)):=S1.o.grown nq osq;clear c0 c1 e0 e1 hc S1;generalize grow (wr.drewN nq) osq=w2 at S2 ⊢;clear nq osq;go_wp2
     go_roundg ((i+j) / 2-i)
     case measure=>omega
     case rel=>exact⟨i,(i+j) / 2,rfl,by go_num,hai,by omega,by omega,ay _,S2,HL,(fun _=>Int.not_lt.1 HX.o)⟩
  ·obtain rfl:i=j:=by omega
   have hltz:¬ (i:Int)<(i:Int):=by omega
   go_wp2
   go_loopg [13] (i-1-a) (fun kx s13 wr=>∃ (k:Nat) (dk:Array qG),s13 = .int .i64 k∧a≤k∧k≤i-1∧i-1-k≤kx∧dk.size=d0.size∧Aside (SWK qy 2 w0 blk off dk wr)∧Aside (∀ t,dk[t]! = d[sP a (a+1) (k+1) t]!))
   case atStart=>exact⟨a,d,rfl,ay _,by omega,ay _,hs,S1,(fun t=>by rw[zT a (a+1) (a+1) t (by omega) (by omega) (by omega)])⟩
   case round=>
    clear S1;obtain⟨k,dk,rfl,hak,hki,aeG,hds,S2,HK⟩:=hrel
    by_cases hlt2:k<i-1
    ·have aaY:(k:Int)<(i:Int)-1:=by omega
     have ew:((k:Int)+1).toNat=k+1:=by omega
     have pw:(0:Int)≤(k:Int)+1:=by omega
     have bw:(k:Int)+1<(d0.size:Int):=by omega
     have bw2:(k:Int)<(d0.size:Int):=by omega
     obtain⟨p0,p1,_,_⟩:=tN S2.o.drew R (by omega) k (by omega);obtain⟨q0,q1,_,_⟩:=tN S2.o.drew R (by omega) (k+1) (by omega);obtain⟨_,_,f2,f3⟩:=tN S2.o R (by omega) k (by omega);obtain⟨_,_,g2,g3⟩:=tN S2.o R (by omega) (k+1) (by omega);have q3:=fun u v=>(yh S2.o R (by omega) k (k+1) (by omega) (by omega) u v).1
     have q4:=fun u v=>(yh S2.o R (by omega) k (k+1) (by omega) (by omega) u v).2
     have S3:Aside (SWK qy 2 w0 blk off (swp dk k (k+1)) (MF wr blk off k (k+1) dk[k+1]! dk[k]!)):=IL S2.o R k (k+1) (by omega) (by omega);clear S2;generalize dk[k]! = X at *;generalize dk[k+1]! = Y at *
     go_wp2_with fail
     go_big_region_o
     clear p0 p1 q0 q1 f2 f3 g2 g3 q3 q4;rw[KF];generalize MF wr blk off k (k+1) Y X=w2 at S3 ⊢;go_wp2
     go_roundg (i-1-(k+1))
     case measure=>omega
     case rel=>exact⟨k+1,swp dk k (k+1),by go_num,by omega,by omega,ay _,by rw[kW];exact hds,S3,UJ (by omega) (by omega) hak HK.o⟩
    ·have aaY:¬ (k:Int)<(i:Int)-1:=by omega
     go_wp2;have he:=Nb (key:=key) (d:=d) (d1:=dk) (a:=a) (i:=i) (b:=b) (by omega) hai hjb SB.o (by omega) (fun t=>by rw[HK.o,show k+1=i from by omega]) HL.o HR.o
     (try simp only[Exit.inBlock,Exit.then]);refine aY (dO rfl _ _ _) rfl ?_
     exact⟨rfl,dk,S2.o,he.1,he.2⟩
theorem symMerge.right (g:Nat)(cf:qG→qG→Int)(key:qG→Int)(hcf:∀ x y,cf x y<0↔key x<key y)(eg:∀ args w,(callFunc g args).run Tryz.prog w = .ok (.enter g args) w)
 (blk off cap:Nat) (d0:Array qG) (w0:World) (R:RowK qy 2 w0 blk off d0) (hC:CmpLays Tryz.prog g #[] qy 2 cf blk off d0.size w0) (hsz:d0.size<4611686018427387904)
 (a m b:Nat) (d:Array qG) (w:World) (hmb:b=m+1) (hs:d.size=d0.size) (S:SWK qy 2 w0 blk off d w) (h1:m≠a+1) (ha:a<m) (hb:b≤d0.size) (hA:uV key d a m) :
 Calls Tryz.prog 149 #[.slice (some ⟨blk,off,none⟩) d0.size cap,.int .i64 (a),.int .i64 (m),.int .i64 (b),.func (.func g) #[] #[]] w fun e w'=>e = .returned (.tuple #[])∧∃ d',SWK qy 2 w0 blk off d' w'∧MG key d a b d'∧uV key d' a b:=by
 have mixed:Tryz.prog.follows .mixedOrders=true:=by kernel_rfl
 have S0:Aside (SWK qy 2 w0 blk off d w):=S;have HC:=Y7 hC;have HCF:=Y7 hcf;have SA:=Y7 hA;clear S hC hcf hA;have h1z:¬ (m:Int)-(a:Int)=1:=by omega
 have h1b:((m:Int)-(a:Int)==1)=false:=beq_eq_false_iff_ne.2 h1z;have h2z:(b:Int)-(m:Int)=1:=by omega
 have m1:b≤m+1:=by omega
 have m2:m+1≤b:=by omega
 have HMB:=Y7 hmb;clear hmb h1
 go_enter Tryz.func149,Tryz.ntmps149
 go_wp2
 go_loopg [14,15] (m-a) (fun kx s10 s11 wr=>∃ (i j:Nat),s10 = .int .i64 i∧s11 = .int .i64 j∧a≤i∧i≤j∧j≤m∧j-i≤kx∧Aside (SWK qy 2 w0 blk off d wr)∧Aside (a<i→key d[i-1]! ≤ key d[m]!)∧Aside (j<m→key d[m]! < key d[j]!))
 case atStart=>exact⟨a,m,rfl,rfl,ay _,by omega,ay _,ay _,S0,(fun h=>by omega),(fun h=>by omega)⟩
 case round=>
  clear S0;obtain⟨i,j,rfl,rfl,hai,hij,hjb,hkx,S1,HL,HR⟩:=hrel
  by_cases hlt:i<j
  ·have hltz:(i:Int)<(j:Int):=by omega
   have c0:=fun n' os'=>(rU S1.o R hs ((i+j) / 2) (by omega) n' os').1
   have c1:=fun n' os'=>(rU S1.o R hs ((i+j) / 2) (by omega) n' os').2
   have e0:=fun n' os'=>(rU S1.o R hs m (by omega) n' os').1
   have e1:=fun n' os'=>(rU S1.o R hs m (by omega) n' os').2
   have hc:=fun n' os'=>GI S1.o HC.o hs d[m]! d[(i+j) / 2]! n' os'
   have pa:(0:Int)≤((i:Int)+(j:Int)) / 2:=by omega
   have ba:((i:Int)+(j:Int)) / 2<(d0.size:Int):=by omega
   have ea:(((i:Int)+(j:Int)) / 2).toNat=(i+j) / 2:=by omega
   have b1:(m:Int)<(d0.size:Int):=by omega
   cases hv:decide (cf d[m]! d[(i+j) / 2]! < 0) with
   | false=>
     have HX:=Y7 (fun h=>dF hv ((HCF.o _ _).2 h));generalize d[(i+j) / 2]! = y at c0 c1 hc hv;generalize d[m]! = x at e0 e1 hc hv
     go_wp2_with fail
     go_quiet_grown (first|(go_at_fn g;refine eG (hc _ _)))
     have S2:Aside (SWK qy 2 w0 blk off d (grow (wr.drewN nq) osq)):=S1.o.grown nq osq;clear c0 c1 e0 e1 hc S1;generalize grow (wr.drewN nq) osq=w2 at S2 ⊢;clear nq osq;go_wp2
     go_roundg (j-((i+j) / 2+1))
     case measure=>omega
     case rel=>exact⟨(i+j) / 2+1,j,by go_num,rfl,by omega,by omega,hjb,ay _,S2,(fun _=>Int.not_lt.1 HX.o),HR⟩
   | true=>
     have HX:=Y7 ((HCF.o _ _).1 (aM hv));generalize d[(i+j) / 2]! = y at c0 c1 hc hv;generalize d[m]! = x at e0 e1 hc hv
     go_wp2_with fail
     go_quiet_grown (first|(go_at_fn g;refine eG (hc _ _)))
     have S2:Aside (SWK qy 2 w0 blk off d (grow (wr.drewN nq) osq)):=S1.o.grown nq osq;clear c0 c1 e0 e1 hc S1;generalize grow (wr.drewN nq) osq=w2 at S2 ⊢;clear nq osq;go_wp2
     go_roundg ((i+j) / 2-i)
     case measure=>omega
     case rel=>exact⟨i,(i+j) / 2,rfl,by go_num,hai,by omega,by omega,ay _,S2,HL,(fun _=>HX.o)⟩
  ·obtain rfl:i=j:=by omega
   have hltz:¬ (i:Int)<(i:Int):=by omega
   go_wp2
   go_loopg [17] (m-i) (fun kx s13 wr=>∃ (k:Nat) (dk:Array qG),s13 = .int .i64 k∧i≤k∧k≤m∧k-i≤kx∧dk.size=d0.size∧Aside (SWK qy 2 w0 blk off dk wr)∧Aside (∀ t,dk[t]! = d[sP k m (m+1) t]!))
   case atStart=>exact⟨m,d,rfl,by omega,by omega,ay _,hs,S1,(fun t=>by rw[zT m m (m+1) t (by omega) (by omega) (by omega)])⟩
   case round=>
    clear S1;obtain⟨k,dk,rfl,hak,hki,aeG,hds,S2,HK⟩:=hrel
    by_cases hlt2:i<k
    ·obtain⟨kp,rfl⟩:∃ kp,k=kp+1:=⟨k-1,by omega⟩;have aaY:((kp+1:Nat):Int)>(i:Int):=by omega
     have aaZ:(i:Int)<(kp:Int)+1:=by omega
     have ew:((kp:Int)+1).toNat=kp+1:=by omega
     have ew2:((kp:Int)+1-1).toNat=kp:=by omega
     have pw:(0:Int)≤(kp:Int)+1:=by omega
     have bw:(kp:Int)+1<(d0.size:Int):=by omega
     have bw2:(kp:Int)<(d0.size:Int):=by omega
     obtain⟨p0,p1,_,_⟩:=tN S2.o.drew R (by omega) (kp+1) (by omega);obtain⟨q0,q1,_,_⟩:=tN S2.o.drew R (by omega) kp (by omega);obtain⟨_,_,f2,f3⟩:=tN S2.o R (by omega) (kp+1) (by omega);obtain⟨_,_,g2,g3⟩:=tN S2.o R (by omega) kp (by omega);have q3:=fun u v=>(yh S2.o R (by omega) (kp+1) kp (by omega) (by omega) u v).1
     have q4:=fun u v=>(yh S2.o R (by omega) (kp+1) kp (by omega) (by omega) u v).2
     have S3:Aside (SWK qy 2 w0 blk off (swp dk (kp+1) kp) (MF wr blk off (kp+1) kp dk[kp]! dk[kp+1]!)):=IL S2.o R (kp+1) kp (by omega) (by omega);clear S2;generalize dk[kp+1]! = X at *;generalize dk[kp]! = Y at *
     go_wp2_with fail
     go_big_region_o
     clear p0 p1 q0 q1 f2 f3 g2 g3 q3 q4;rw[KF];generalize MF wr blk off (kp+1) kp Y X=w2 at S3 ⊢;go_wp2
     go_roundg (kp-i)
     case measure=>omega
     case rel=>exact⟨kp,swp dk (kp+1) kp,by go_num,by omega,by omega,ay _,by rw[kW];exact hds,S3,Nv (by omega) (by omega) (by omega) HK.o⟩
    ·have aaY:¬ ((k:Nat):Int)>(i:Int):=by omega
     have aaZ:¬ (i:Int)<(k:Int):=by omega
     go_wp2;have hmb:=HMB.o;subst hmb;have he:=JJ (key:=key) (d:=d) (d1:=dk) (a:=a) (i:=i) (m:=m) (by omega) hai hjb SA.o (by omega) (fun t=>by rw[HK.o,show k=i from by omega]) HL.o HR.o
     (try simp only[Exit.inBlock,Exit.then]);refine aY (dO rfl _ _ _) rfl ?_
     exact⟨rfl,dk,S2.o,he.1,he.2⟩
def XT:Nat→Code→Code
 | 0,c=>c
 | k+1,.seq _ b=>XT k b
 | _,c=>c
theorem symMerge.t43 (g:Nat)(cf:qG→qG→Int)(key:qG→Int)(blk off cap:Nat)(d0:Array qG)(w0:World)(R:RowK qy 2 w0 blk off d0)(hsz:d0.size<4611686018427387904)(n:Nat)(hIH:FM g cf key blk off cap d0 w0 n)
 (a m b q i e:Nat) (d:Array qG) (w:World) (hn:b-a≤n+1) (hs:d.size=d0.size) (hm:m<b) (hb:b≤d0.size) (q1:2*q≤a+b) (q2:a+b≤2*q+1) (ZW:a≤i) (him:i≤m) (E1:e+i=q+m) (e3:m≤e) (e4:e≤b) (e5:i≤q) (e6:q≤e) (hA:uV key d a m) (hB:uV key d m b) (hL:a<i→e<b→key d[i-1]! ≤ key d[e]!) (hR:i<m→m<e→key d[e-1]! < key d[i]!) (d1 d2:Array qG) (hz1:d1.size=d0.size) (hp1:∀ t,d1[t]! = d[sP i m e t]!) (k2:MG key d1 a q d2) (s2:uV key d2 a q) (t1:∀ x y,q≤x→x<y→y<e→key d2[x]! ≤ key d2[y]!) (t2:∀ x y,e≤x→x<y→y<b→key d2[x]! ≤ key d2[y]!) (S:SWK qy 2 w0 blk off d2 w)
 {u5 u6 u7 u8 u9 u10 u11 u12 u13 u14 u15 u16 u17 u19 u21 u22 u23 u25 u26 u27 u28 u29 u30 u31 u32 u33 u34 u35 u36 u37 u38 u39 u40 u41 u42 u43 u44 u45 u46 u47 u48 u49 u50 u51 u52 u53 u54 u55 u56 u57 u58 u59 u60 u61 u62 u63 u64 u65 u66 u67 u68 u69 u70 u71 u72 u73 u74 u75 u76 u77 u78 u79 u80 u81 u82 u83 u84 u85 u86 u87 u88 u89 u90 u91 u92 u93 u94 u95 u96 u97 u98 u99 abC abD abE abF abG u105 abH abI abJ abK abL abM abN abO abP abQ abR abS abT u119 abU aa3 aa4 aa5 u124 abV abW u127 abX abY abZ u131 ab0 ab1 ab2 ab3 ab4 ab5 u138 u139 ab6 ab7 ab8 ab9 acd ace acf acg ach aci acj acn u152 aco u154 acp acr acs acu acv acw acy u162 acz u164 acA acB acC acD acE acF acG acH acI acJ acK acL acM acN acO acP acQ acR acS acT acU acV acW acX acY acZ ac0 ac1 u193 u194 ac2 u196 ac3 u198 ac4 ac5 u201 ac6 ac7 ac8 ac9 u206 ada u208 adb u210 ade adf adg adh adi adj adk adl adn:Value} :
 Code.wp Tryz.prog (XT 11 (Tryz.f149.body.getD .skip)) (bodyPost Tryz.prog Tryz.f149 fun e w'=>e = .returned (.tuple #[])∧∃ d',SWK qy 2 w0 blk off d' w'∧MG key d a b d'∧uV key d' a b) ⟨List.toArray ((.slice (some ⟨blk,off,none⟩) d0.size cap:Value)::(.int .i64 a:Value)::(.int .i64 m:Value)::(.int .i64 b:Value)::(.func (.func g) #[] #[]:Value)::u5::u6::u7::u8::u9::u10::u11::u12::u13::u14::u15::u16::u17::(.int .i64 q:Value)::u19::(.int .i64 i:Value)::u21::u22::u23::(.int .i64 e:Value)::u25::u26::u27::u28::u29::u30::u31::u32::u33::u34::u35::u36::u37::u38::u39::u40::u41::u42::u43::u44::u45::u46::u47::u48::u49::u50::u51::u52::u53::u54::u55::u56::u57::u58::u59::u60::u61::u62::u63::u64::u65::u66::u67::u68::u69::u70::u71::u72::u73::u74::u75::u76::u77::u78::u79::u80::u81::u82::u83::u84::u85::u86::u87::u88::u89::u90::u91::u92::u93::u94::u95::u96::u97::u98::u99::abC::abD::abE::abF::abG::u105::abH::abI::abJ::abK::abL::abM::abN::abO::abP::abQ::abR::abS::abT::u119::abU::aa3::aa4::aa5::u124::abV::abW::u127::abX::abY::abZ::u131::ab0::ab1::ab2::ab3::ab4::ab5::u138::u139::ab6::ab7::ab8::ab9::acd::ace::acf::acg::ach::aci::acj::acn::u152::aco::u154::acp::acr::acs::acu::acv::acw::acy::u162::acz::u164::acA::acB::acC::acD::acE::acF::acG::acH::acI::acJ::acK::acL::acM::acN::acO::acP::acQ::acR::acS::acT::acU::acV::acW::acX::acY::acZ::ac0::ac1::u193::u194::ac2::u196::ac3::u198::ac4::ac5::u201::ac6::ac7::ac8::ac9::u206::ada::u208::adb::u210::ade::adf::adg::adh::adi::adj::adk::adl::adn::[]),[]⟩ w:=by
 have mixed:Tryz.prog.follows .mixedOrders=true:=by kernel_rfl
 have IH:=Y7 hIH;have SA:=Y7 hA;have SB:=Y7 hB;have HLL:=Y7 hL;have HRR:=Y7 hR;clear hIH hA hB hL hR;have T3:Aside (SWK qy 2 w0 blk off d2 w):=S;have HP1:=Y7 hp1;have K2:=Y7 k2;have S2:=Y7 s2;have HD2:=Y7 (And.intro t1 t2);clear hp1 k2 s2 t1 t2 S
 conv=>arg 2;whnf
 go_upto_region 43 with (fail)
 rename_i hK
 go_cut [213] (fun v wx=>∃ bv:Bool,v = .bool bv∧YW.oO.oM (bv=decide ((q<e)∧(e<b)))∧YW.oO.oM (wx=w))
 case first=>
  by_cases g1:q<e
  ·have g1z:(q:Int)<(e:Int):=by omega
   by_cases g2:e<b
   ·have g2z:(e:Int)<(b:Int):=by omega
    go_wp2_with fail
    go_meet
    exact⟨true,rfl,⟨(aC ⟨g1,g2⟩).symm⟩,⟨rfl⟩⟩
   ·have g2z:¬ (e:Int)<(b:Int):=by omega
    go_wp2_with fail
    go_meet
    exact⟨false,rfl,⟨(aD (fun h=>g2 h.2)).symm⟩,⟨rfl⟩⟩
  ·have g1z:¬ (q:Int)<(e:Int):=by omega
   go_wp2_with fail
   go_meet
   exact⟨false,rfl,⟨(aD (fun h=>g1 h.1)).symm⟩,⟨rfl⟩⟩
 case rest=>
  obtain⟨bv,rfl,hbv,hw1⟩:=hcut;have T4:Aside (SWK qy 2 w0 blk off d2 wc):=by rw[hw1.o];exact T3
  clear T3 hw1;cases bv
  rotate_left
  ·have hr:q<e∧e<b:=aM hbv.o.symm;have HR0:=Y7 (IH.o q e b d2 wc (by omega) (K2.o.1.trans hz1) T4.o hr.1 hr.2 (by omega) HD2.o.1 HD2.o.2);clear hr
   go_wp2_with (first|(go_at_call 149;refine HR0.o.mono ?_;rintro _ w1 ⟨rfl,d3,hS,hp1⟩;have T5:Aside (SWK qy 2 w0 blk off d3 w1):=hS;have HP3:=Y7 hp1;clear hS hp1))
   go_end0;have hf:=yg (key:=key) (d:=d) (d1:=d1) (d2:=d2) (d3:=d3) (a:=a) (s:=i) (m:=m) (e:=e) (b:=b) (q:=q) (by omega) ZW him e3 e4 (by omega) SA.o SB.o (by omega) HP1.o HLL.o HRR.o K2.o S2.o HP3.o.1 HP3.o.2;exact⟨rfl,d3,T5.o,hf.1,hf.2⟩
  ·have hr:¬ (q<e∧e<b):=dF hbv.o.symm;have HQ3:=Y7 (show uV key d2 q b from by
    by_cases hqe:q<e
    ·have:b=e:=by omega
     subst this;exact HD2.o.1
    ·have:q=e:=by omega
     subst this;exact HD2.o.2)
   clear hr;go_wp2;go_end0;have hf:=yg (key:=key) (d:=d) (d1:=d1) (d2:=d2) (d3:=d2) (a:=a) (s:=i) (m:=m) (e:=e) (b:=b) (q:=q) (by omega) ZW him e3 e4 (by omega) SA.o SB.o (by omega) HP1.o HLL.o HRR.o K2.o S2.o (MG.refl _ _ _) HQ3.o;exact⟨rfl,d2,T4.o,hf.1,hf.2⟩
theorem symMerge.t41 (g:Nat)(cf:qG→qG→Int)(key:qG→Int)(blk off cap:Nat)(d0:Array qG)(w0:World)(R:RowK qy 2 w0 blk off d0)(hsz:d0.size<4611686018427387904)(n:Nat)(hIH:FM g cf key blk off cap d0 w0 n)
 (a m b q i e:Nat) (d:Array qG) (w:World) (hn:b-a≤n+1) (hs:d.size=d0.size) (hm:m<b) (hb:b≤d0.size) (q1:2*q≤a+b) (q2:a+b≤2*q+1) (ZW:a≤i) (him:i≤m) (E1:e+i=q+m) (e3:m≤e) (e4:e≤b) (e5:i≤q) (e6:q≤e) (hA:uV key d a m) (hB:uV key d m b) (hL:a<i→e<b→key d[i-1]! ≤ key d[e]!) (hR:i<m→m<e→key d[e-1]! < key d[i]!) (d1:Array qG) (hz1:d1.size=d0.size) (hp1:∀ t,d1[t]! = d[sP i m e t]!) (S:SWK qy 2 w0 blk off d1 w)
 {u5 u6 u7 u8 u9 u10 u11 u12 u13 u14 u15 u16 u17 u19 u21 u22 u23 u25 u26 u27 u28 u29 u30 u31 u32 u33 u34 u35 u36 u37 u38 u39 u40 u41 u42 u43 u44 u45 u46 u47 u48 u49 u50 u51 u52 u53 u54 u55 u56 u57 u58 u59 u60 u61 u62 u63 u64 u65 u66 u67 u68 u69 u70 u71 u72 u73 u74 u75 u76 u77 u78 u79 u80 u81 u82 u83 u84 u85 u86 u87 u88 u89 u90 u91 u92 u93 u94 u95 u96 u97 u98 u99 abC abD abE abF abG u105 abH abI abJ abK abL abM abN abO abP abQ abR abS abT u119 abU aa3 aa4 aa5 u124 abV abW u127 abX abY abZ u131 ab0 ab1 ab2 ab3 ab4 ab5 u138 u139 ab6 ab7 ab8 ab9 acd ace acf acg ach aci acj acn u152 aco u154 acp acr acs acu acv acw acy u162 acz u164 acA acB acC acD acE acF acG acH acI acJ acK acL acM acN acO acP acQ acR acS acT acU acV acW acX acY acZ ac0 ac1 u193 u194 ac2 u196 ac3 u198 ac4 ac5 u201 ac6 ac7 ac8 ac9 u206 ada u208 adb u210 ade adf adg adh adi adj adk adl adn:Value} :
 Code.wp Tryz.prog (XT 10 (Tryz.f149.body.getD .skip)) (bodyPost Tryz.prog Tryz.f149 fun e w'=>e = .returned (.tuple #[])∧∃ d',SWK qy 2 w0 blk off d' w'∧MG key d a b d'∧uV key d' a b) ⟨List.toArray ((.slice (some ⟨blk,off,none⟩) d0.size cap:Value)::(.int .i64 a:Value)::(.int .i64 m:Value)::(.int .i64 b:Value)::(.func (.func g) #[] #[]:Value)::u5::u6::u7::u8::u9::u10::u11::u12::u13::u14::u15::u16::u17::(.int .i64 q:Value)::u19::(.int .i64 i:Value)::u21::u22::u23::(.int .i64 e:Value)::u25::u26::u27::u28::u29::u30::u31::u32::u33::u34::u35::u36::u37::u38::u39::u40::u41::u42::u43::u44::u45::u46::u47::u48::u49::u50::u51::u52::u53::u54::u55::u56::u57::u58::u59::u60::u61::u62::u63::u64::u65::u66::u67::u68::u69::u70::u71::u72::u73::u74::u75::u76::u77::u78::u79::u80::u81::u82::u83::u84::u85::u86::u87::u88::u89::u90::u91::u92::u93::u94::u95::u96::u97::u98::u99::abC::abD::abE::abF::abG::u105::abH::abI::abJ::abK::abL::abM::abN::abO::abP::abQ::abR::abS::abT::u119::abU::aa3::aa4::aa5::u124::abV::abW::u127::abX::abY::abZ::u131::ab0::ab1::ab2::ab3::ab4::ab5::u138::u139::ab6::ab7::ab8::ab9::acd::ace::acf::acg::ach::aci::acj::acn::u152::aco::u154::acp::acr::acs::acu::acv::acw::acy::u162::acz::u164::acA::acB::acC::acD::acE::acF::acG::acH::acI::acJ::acK::acL::acM::acN::acO::acP::acQ::acR::acS::acT::acU::acV::acW::acX::acY::acZ::ac0::ac1::u193::u194::ac2::u196::ac3::u198::ac4::ac5::u201::ac6::ac7::ac8::ac9::u206::ada::u208::adb::u210::ade::adf::adg::adh::adi::adj::adk::adl::adn::[]),[]⟩ w:=by
 have mixed:Tryz.prog.follows .mixedOrders=true:=by kernel_rfl
 have IH:=Y7 hIH;have SA:=Y7 hA;have SB:=Y7 hB;have HLL:=Y7 hL;have HRR:=Y7 hR;clear hIH hA hB hL hR;have T1:Aside (SWK qy 2 w0 blk off d1 w):=S;have HP1:=Y7 hp1;clear hp1 S;have HRS:=Y7 (show (∀ x y,a≤x→x<y→y<i→key d1[x]! ≤ key d1[y]!)∧(∀ x y,i≤x→x<y→y<q→key d1[x]! ≤ key d1[y]!)∧(∀ x y,q≤x→x<y→y<e→key d1[x]! ≤ key d1[y]!)∧(∀ x y,e≤x→x<y→y<b→key d1[x]! ≤ key d1[y]!) from by
  refine⟨fun x y x1 x2 x3=>?_,fun x y x1 x2 x3=>?_,fun x y x1 x2 x3=>?_,fun x y x1 x2 x3=>?_⟩
  ·rw[HP1.o,HP1.o,show sP i m e x=x from by unfold sP;(repeat' split)<;>omega,show sP i m e y=y from by unfold sP;(repeat' split)<;>omega];exact SA.o _ _ x1 x2 (by omega)
  ·rw[HP1.o,HP1.o,show sP i m e x=m+(x-i) from by unfold sP;(repeat' split)<;>omega,show sP i m e y=m+(y-i) from by unfold sP;(repeat' split)<;>omega];exact SB.o _ _ (by omega) (by omega) (by omega)
  ·rw[HP1.o,HP1.o,show sP i m e x=x-(e-m) from by unfold sP;(repeat' split)<;>omega,show sP i m e y=y-(e-m) from by unfold sP;(repeat' split)<;>omega];exact SA.o _ _ (by omega) (by omega) (by omega)
  ·rw[HP1.o,HP1.o,show sP i m e x=x from by unfold sP;(repeat' split)<;>omega,show sP i m e y=y from by unfold sP;(repeat' split)<;>omega];exact SB.o _ _ (by omega) (by omega) (by omega))
 conv=>arg 2;whnf
 go_upto_region 41 with (fail)
 rename_i hK
 go_cut [199] (fun v wx=>∃ bv:Bool,v = .bool bv∧YW.oO.oM (bv=decide ((a<i)∧(i<q)))∧YW.oO.oM (wx=w))
 case first=>
  by_cases g1:a<i
  ·have g1z:(a:Int)<(i:Int):=by omega
   by_cases g2:i<q
   ·have g2z:(i:Int)<(q:Int):=by omega
    go_wp2_with fail
    go_meet
    exact⟨true,rfl,⟨(aC ⟨g1,g2⟩).symm⟩,⟨rfl⟩⟩
   ·have g2z:¬ (i:Int)<(q:Int):=by omega
    go_wp2_with fail
    go_meet
    exact⟨false,rfl,⟨(aD (fun h=>g2 h.2)).symm⟩,⟨rfl⟩⟩
  ·have g1z:¬ (a:Int)<(i:Int):=by omega
   go_wp2_with fail
   go_meet
   exact⟨false,rfl,⟨(aD (fun h=>g1 h.1)).symm⟩,⟨rfl⟩⟩
 case rest=>
  obtain⟨bv,rfl,hbv,hw1⟩:=hcut;have T2:Aside (SWK qy 2 w0 blk off d1 wc):=by rw[hw1.o];exact T1
  clear T1 hw1;generalize wc=wa2 at *
  go_upto_if 199 with (fail)
  rename_i hK2
  go_cut [] (fun wx=>∃ d2,Aside (SWK qy 2 w0 blk off d2 wx)∧YW.oO.oM (MG key d1 a q d2∧uV key d2 a q))
  case first=>
   cases bv
   rotate_left
   ·have hr:a<i∧i<q:=aM hbv.o.symm;have HR0:=Y7 (IH.o a i q d1 wa2 (by omega) hz1 T2.o hr.1 hr.2 (by omega) HRS.o.1 HRS.o.2.1);clear hr
    go_wp2_with (first|(go_at_call 149;refine HR0.o.mono ?_;rintro _ w1 ⟨rfl,d2,hS,hp1⟩;have T3:Aside (SWK qy 2 w0 blk off d2 w1):=hS;have HP2:=Y7 hp1;clear hS hp1))
    go_meet
    exact⟨d2,T3,HP2⟩
   ·have hr:¬ (a<i∧i<q):=dF hbv.o.symm;have HN:=Y7 hr;clear hr;go_wp2
    go_meet
    refine⟨d1,T2,⟨MG.refl _ _ _,?_⟩⟩;have hr:=HN.o
    by_cases hai2:a<i
    ·have:q=i:=by omega
     subst this;exact HRS.o.1
    ·have:a=i:=by omega
     subst this;exact HRS.o.2.1
  case rest=>
   obtain⟨d2,T3,HP2⟩:=hcut;refine hK2 _ _ ?_;exact symMerge.t43 g cf key blk off cap d0 w0 R hsz n IH.o a m b q i e d _ hn hs hm hb q1 q2 ZW him E1 e3 e4 e5 e6 SA.o SB.o HLL.o HRR.o d1 d2 hz1 HP1.o HP2.o.1 HP2.o.2
    (fun x y x1 x2 x3=>by rw[HP2.o.1.2.1 x (.inr x1),HP2.o.1.2.1 y (.inr (by omega))];exact HRS.o.2.2.1 x y x1 x2 x3) (fun x y x1 x2 x3=>by rw[HP2.o.1.2.1 x (.inr (by omega)),HP2.o.1.2.1 y (.inr (by omega))];exact HRS.o.2.2.2 x y x1 x2 x3) T3.o
theorem symMerge.t39 (g:Nat)(cf:qG→qG→Int)(key:qG→Int)(blk off cap:Nat)(d0:Array qG)(w0:World)(R:RowK qy 2 w0 blk off d0)(hsz:d0.size<4611686018427387904)(n:Nat)(hIH:FM g cf key blk off cap d0 w0 n)
 (a m b q i e:Nat) (d:Array qG) (w:World) (hn:b-a≤n+1) (hs:d.size=d0.size) (S:SWK qy 2 w0 blk off d w) (hm:m<b) (hb:b≤d0.size) (q1:2*q≤a+b) (q2:a+b≤2*q+1) (ZW:a≤i) (him:i≤m) (E1:e+i=q+m) (e3:m≤e) (e4:e≤b) (e5:i≤q) (e6:q≤e) (hA:uV key d a m) (hB:uV key d m b) (hL:a<i→e<b→key d[i-1]! ≤ key d[e]!) (hR:i<m→m<e→key d[e-1]! < key d[i]!)
 {u5 u6 u7 u8 u9 u10 u11 u12 u13 u14 u15 u16 u17 u19 u21 u22 u23 u25 u26 u27 u28 u29 u30 u31 u32 u33 u34 u35 u36 u37 u38 u39 u40 u41 u42 u43 u44 u45 u46 u47 u48 u49 u50 u51 u52 u53 u54 u55 u56 u57 u58 u59 u60 u61 u62 u63 u64 u65 u66 u67 u68 u69 u70 u71 u72 u73 u74 u75 u76 u77 u78 u79 u80 u81 u82 u83 u84 u85 u86 u87 u88 u89 u90 u91 u92 u93 u94 u95 u96 u97 u98 u99 abC abD abE abF abG u105 abH abI abJ abK abL abM abN abO abP abQ abR abS abT u119 abU aa3 aa4 aa5 u124 abV abW u127 abX abY abZ u131 ab0 ab1 ab2 ab3 ab4 ab5 u138 u139 ab6 ab7 ab8 ab9 acd ace acf acg ach aci acj acn u152 aco u154 acp acr acs acu acv acw acy u162 acz u164 acA acB acC acD acE acF acG acH acI acJ acK acL acM acN acO acP acQ acR acS acT acU acV acW acX acY acZ ac0 ac1 u193 u194 ac2 u196 ac3 u198 ac4 ac5 u201 ac6 ac7 ac8 ac9 u206 ada u208 adb u210 ade adf adg adh adi adj adk adl adn:Value} :
 Code.wp Tryz.prog (XT 9 (Tryz.f149.body.getD .skip)) (bodyPost Tryz.prog Tryz.f149 fun e w'=>e = .returned (.tuple #[])∧∃ d',SWK qy 2 w0 blk off d' w'∧MG key d a b d'∧uV key d' a b) ⟨List.toArray ((.slice (some ⟨blk,off,none⟩) d0.size cap:Value)::(.int .i64 a:Value)::(.int .i64 m:Value)::(.int .i64 b:Value)::(.func (.func g) #[] #[]:Value)::u5::u6::u7::u8::u9::u10::u11::u12::u13::u14::u15::u16::u17::(.int .i64 q:Value)::u19::(.int .i64 i:Value)::u21::u22::u23::(.int .i64 e:Value)::u25::u26::u27::u28::u29::u30::u31::u32::u33::u34::u35::u36::u37::u38::u39::u40::u41::u42::u43::u44::u45::u46::u47::u48::u49::u50::u51::u52::u53::u54::u55::u56::u57::u58::u59::u60::u61::u62::u63::u64::u65::u66::u67::u68::u69::u70::u71::u72::u73::u74::u75::u76::u77::u78::u79::u80::u81::u82::u83::u84::u85::u86::u87::u88::u89::u90::u91::u92::u93::u94::u95::u96::u97::u98::u99::abC::abD::abE::abF::abG::u105::abH::abI::abJ::abK::abL::abM::abN::abO::abP::abQ::abR::abS::abT::u119::abU::aa3::aa4::aa5::u124::abV::abW::u127::abX::abY::abZ::u131::ab0::ab1::ab2::ab3::ab4::ab5::u138::u139::ab6::ab7::ab8::ab9::acd::ace::acf::acg::ach::aci::acj::acn::u152::aco::u154::acp::acr::acs::acu::acv::acw::acy::u162::acz::u164::acA::acB::acC::acD::acE::acF::acG::acH::acI::acJ::acK::acL::acM::acN::acO::acP::acQ::acR::acS::acT::acU::acV::acW::acX::acY::acZ::ac0::ac1::u193::u194::ac2::u196::ac3::u198::ac4::ac5::u201::ac6::ac7::ac8::ac9::u206::ada::u208::adb::u210::ade::adf::adg::adh::adi::adj::adk::adl::adn::[]),[]⟩ w:=by
 have mixed:Tryz.prog.follows .mixedOrders=true:=by kernel_rfl
 have IH:=Y7 hIH;have SA:=Y7 hA;have SB:=Y7 hB;have HLL:=Y7 hL;have HRR:=Y7 hR;clear hIH hA hB hL hR;have T0:Aside (SWK qy 2 w0 blk off d w):=S;clear S
 conv=>arg 2;whnf
 go_upto_region 39 with (fail)
 rename_i hK
 go_cut [185] (fun v wx=>∃ bv:Bool,v = .bool bv∧YW.oO.oM (bv=decide ((i<m)∧(m<e)))∧YW.oO.oM (wx=w))
 case first=>
  by_cases g1:i<m
  ·have g1z:(i:Int)<(m:Int):=by omega
   by_cases g2:m<e
   ·have g2z:(m:Int)<(e:Int):=by omega
    go_wp2_with fail
    go_meet
    exact⟨true,rfl,⟨(aC ⟨g1,g2⟩).symm⟩,⟨rfl⟩⟩
   ·have g2z:¬ (m:Int)<(e:Int):=by omega
    go_wp2_with fail
    go_meet
    exact⟨false,rfl,⟨(aD (fun h=>g2 h.2)).symm⟩,⟨rfl⟩⟩
  ·have g1z:¬ (i:Int)<(m:Int):=by omega
   go_wp2_with fail
   go_meet
   exact⟨false,rfl,⟨(aD (fun h=>g1 h.1)).symm⟩,⟨rfl⟩⟩
 case rest=>
  obtain⟨bv,rfl,hbv,hw1⟩:=hcut;have T1:Aside (SWK qy 2 w0 blk off d wc):=by rw[hw1.o];exact T0
  clear T0 hw1;generalize wc=wa at *
  go_upto_if 185 with (fail)
  rename_i hK2
  go_cut [] (fun wx=>∃ d1,Aside (SWK qy 2 w0 blk off d1 wx)∧d1.size=d0.size∧YW.oO.oM (∀ t,d1[t]! = d[sP i m e t]!))
  case first=>
   cases bv
   rotate_left
   ·have hr:i<m∧m<e:=aM hbv.o.symm;have hr0:=rotate.c g blk off cap i m e d0 d w0 wa R hs.symm T1.o hr.1 hr.2 (by omega) (by omega);rw[hs] at hr0;have HR0:=Y7 hr0;clear hr0 hr
    go_wp2_with (first|(go_at_call 155;refine HR0.o.mono ?_;rintro _ w1 ⟨rfl,d1,hS,hz1,hp1⟩;have T2:Aside (SWK qy 2 w0 blk off d1 w1):=hS;have HP1:=Y7 hp1;clear hS hp1))
    go_meet
    exact⟨d1,T2,hz1,HP1⟩
   ·have hr:¬ (i<m∧m<e):=dF hbv.o.symm;have HN:=Y7 hr;clear hr;go_wp2
    go_meet
    exact⟨d,T1,hs,⟨fun t=>by rw[zT i m e t him e3 (by have:=HN.o;omega)]⟩⟩
  case rest=>
   obtain⟨d1,T2,hz1,HP1⟩:=hcut;refine hK2 _ _ ?_;exact symMerge.t41 g cf key blk off cap d0 w0 R hsz n IH.o a m b q i e d _ hn hs hm hb q1 q2 ZW him E1 e3 e4 e5 e6 SA.o SB.o HLL.o HRR.o d1 hz1 HP1.o T2.o
theorem symMerge.hi (g:Nat)(cf:qG→qG→Int)(key:qG→Int)(hcf:∀ x y,cf x y<0↔key x<key y)(eg:∀ args w,(callFunc g args).run Tryz.prog w = .ok (.enter g args) w)
 (blk off cap:Nat) (d0:Array qG) (w0:World) (R:RowK qy 2 w0 blk off d0) (hC:CmpLays Tryz.prog g #[] qy 2 cf blk off d0.size w0) (hsz:d0.size<4611686018427387904) (n:Nat) (hIH:FM g cf key blk off cap d0 w0 n)
 (a m b:Nat) (d:Array qG) (w:World) (hn:b-a≤n+1) (hs:d.size=d0.size) (S:SWK qy 2 w0 blk off d w) (h1:m≠a+1) (h2:b≠m+1) (ha:a<m) (hm:m<b) (hb:b≤d0.size) (hq:(a+b) / 2<m) (hA:uV key d a m) (hB:uV key d m b) :
 Calls Tryz.prog 149 #[.slice (some ⟨blk,off,none⟩) d0.size cap,.int .i64 a,.int .i64 m,.int .i64 b,.func (.func g) #[] #[]] w fun e w'=>e = .returned (.tuple #[])∧∃ d',SWK qy 2 w0 blk off d' w'∧MG key d a b d'∧uV key d' a b:=by
 have mixed:Tryz.prog.follows .mixedOrders=true:=by kernel_rfl
 have S0:Aside (SWK qy 2 w0 blk off d w):=S;have HC:=Y7 hC;have HCF:=Y7 hcf;have SA:=Y7 hA;have SB:=Y7 hB;have IH:=Y7 hIH;clear S hC hcf hA hB hIH;have h1z:¬ (m:Int)-(a:Int)=1:=by omega
 have h1b:((m:Int)-(a:Int)==1)=false:=beq_eq_false_iff_ne.2 h1z;have h2z:¬ (b:Int)-(m:Int)=1:=by omega
 have h2b:((b:Int)-(m:Int)==1)=false:=beq_eq_false_iff_ne.2 h2z;obtain⟨q,hqd⟩:∃ q,q=(a+b) / 2:=⟨_,rfl⟩;have Q:((a:Int)+(b:Int)) / 2=(q:Int):=by omega
 have q1:2*q≤a+b:=by omega
 have q2:a+b≤2*q+1:=by omega
 rw[← hqd] at hq;clear hqd h1 h2;obtain⟨s0,hs0⟩:∃ s0,s0=q+m-b:=⟨_,rfl⟩;have Z0:(q:Int)+(m:Int)-(b:Int)=(s0:Int):=by omega
 have Z1:s0+b=q+m:=by omega
 have Z2:(m:Int)>(q:Int):=by omega
 clear hs0
 go_enter Tryz.func149,Tryz.ntmps149
 go_wp2
 go_loopg [20,21] (q-s0) (fun kx s20 s21 wr=>∃ (i j:Nat),s20 = .int .i64 i∧s21 = .int .i64 j∧s0≤i∧i≤j∧j≤q∧j-i≤kx∧Aside (SWK qy 2 w0 blk off d wr)∧Aside (s0<i→key d[i-1]! ≤ key d[q+m-i]!)∧Aside (j<q→key d[q+m-1-j]! < key d[j]!))
 case atStart=>exact⟨s0,q,rfl,rfl,ay _,by omega,ay _,ay _,S0,(fun h=>by omega),(fun h=>by omega)⟩
 case round=>
  clear S0;obtain⟨i,j,rfl,rfl,hai,hij,hjb,hkx,S1,HL,HR⟩:=hrel
  by_cases hlt:i<j
  ·have hltz:(i:Int)<(j:Int):=by omega
   obtain⟨c,hcd⟩:∃ c,c=(i+j) / 2:=⟨_,rfl⟩;have C:((i:Int)+(j:Int)) / 2=(c:Int):=by omega
   have c1':i≤c:=by omega
   have c2':c<j:=by omega
   clear hcd;obtain⟨pc,hpd⟩:∃ pc,pc=q+m-1-c:=⟨_,rfl⟩;have PC:(q:Int)+(m:Int)-1-(c:Int)=(pc:Int):=by omega
   have pc1:pc<d0.size:=by omega
   have R1:IntKind.i64.wrap ((q:Int)+(m:Int)-1-(c:Int))=(pc:Int):=by rw[PC,bD];omega
   have R2:IntKind.i64.wrap (pc:Int)=(pc:Int):=by rw[bD];omega
   have pc2:(pc:Int)<(d0.size:Int):=by omega
   have cc2:(c:Int)<(d0.size:Int):=by omega
   have c0:=fun n' os'=>(rU S1.o R hs pc (by omega) n' os').1
   have c1:=fun n' os'=>(rU S1.o R hs pc (by omega) n' os').2
   have e0:=fun n' os'=>(rU S1.o R hs c (by omega) n' os').1
   have e1:=fun n' os'=>(rU S1.o R hs c (by omega) n' os').2
   have hc:=fun n' os'=>GI S1.o HC.o hs d[pc]! d[c]! n' os'
   have HPD:=Y7 hpd;clear hpd;cases hv:decide (cf d[pc]! d[c]! < 0) with
   | false=>
     have HX:=Y7 (fun h=>dF hv ((HCF.o _ _).2 h));generalize d[pc]! = x at c0 c1 hc hv;generalize d[c]! = y at e0 e1 hc hv
     go_wp2_with fail
     go_quiet_grown (first|(go_at_fn g;refine eG (hc _ _)))
     have S2:Aside (SWK qy 2 w0 blk off d (grow (wr.drewN nq) osq)):=S1.o.grown nq osq;clear c0 c1 e0 e1 hc S1;generalize grow (wr.drewN nq) osq=w2 at S2 ⊢;clear nq osq;go_wp2
     go_roundg (j-(c+1))
     case measure=>omega
     case rel=>exact⟨c+1,j,by go_num,rfl,by omega,by omega,hjb,ay _,S2,(fun _=>by rw[show c+1-1=c from rfl,show q+m-(c+1)=pc from by rw[HPD.o];omega];exact Int.not_lt.1 HX.o),HR⟩
   | true=>
     have HX:=Y7 ((HCF.o _ _).1 (aM hv));generalize d[pc]! = x at c0 c1 hc hv;generalize d[c]! = y at e0 e1 hc hv
     go_wp2_with fail
     go_quiet_grown (first|(go_at_fn g;refine eG (hc _ _)))
     have S2:Aside (SWK qy 2 w0 blk off d (grow (wr.drewN nq) osq)):=S1.o.grown nq osq;clear c0 c1 e0 e1 hc S1;generalize grow (wr.drewN nq) osq=w2 at S2 ⊢;clear nq osq;go_wp2
     go_roundg (c-i)
     case measure=>omega
     case rel=>exact⟨i,c,rfl,rfl,hai,by omega,by omega,ay _,S2,HL,(fun _=>by rw[← HPD.o];exact HX.o)⟩
  ·obtain rfl:i=j:=by omega
   have hltz:¬ (i:Int)<(i:Int):=by omega
   have ZW:a≤i:=by omega
   have him:i≤m:=by omega
   obtain⟨e,hed⟩:∃ e,e=q+m-i:=⟨_,rfl⟩;have E:(q:Int)+(m:Int)-(i:Int)=(e:Int):=by omega
   have E1:e+i=q+m:=by omega
   have HL':a<i→e<b→key d[i-1]! ≤ key d[e]! := fun h1 h2=>by rw[hed];exact HL.o (by omega)
   have HR':i<m→m<e→key d[e-1]! < key d[i]! := fun h1 h2=>by rw[hed,show q+m-i-1=q+m-1-i from by omega];exact HR.o (by omega)
   have HLL:=Y7 HL';have HRR:=Y7 HR';have e3:m≤e:=by omega
   have e4:e≤b:=by omega
   have e5:i≤q:=by omega
   have e6:q≤e:=by omega
   clear HL HR hed HL' HR'
   go_upto_region 38 with (fail)
   rename_i hK;have HE:=Y7 E
   go_cut [24] (fun v wx=>v = .int .i64 (e:Int)∧YW.oO.oM (wx=wr))
   case first=>
    go_wp2_with fail
    go_meet
    exact⟨rfl,⟨rfl⟩⟩
   case rest=>
    obtain⟨rfl,hw1⟩:=hcut;have T0:SWK qy 2 w0 blk off d wc:=by rw[hw1.o];exact S1
    refine hK _ _ ?_;exact symMerge.t39 g cf key blk off cap d0 w0 R hsz n IH.o a m b q i e d wc hn hs T0 hm hb q1 q2 ZW him E1 e3 e4 e5 e6 SA.o SB.o HLL.o HRR.o
theorem symMerge.lo (g:Nat)(cf:qG→qG→Int)(key:qG→Int)(hcf:∀ x y,cf x y<0↔key x<key y)(eg:∀ args w,(callFunc g args).run Tryz.prog w = .ok (.enter g args) w)
 (blk off cap:Nat) (d0:Array qG) (w0:World) (R:RowK qy 2 w0 blk off d0) (hC:CmpLays Tryz.prog g #[] qy 2 cf blk off d0.size w0) (hsz:d0.size<4611686018427387904) (n:Nat) (hIH:FM g cf key blk off cap d0 w0 n)
 (a m b:Nat) (d:Array qG) (w:World) (hn:b-a≤n+1) (hs:d.size=d0.size) (S:SWK qy 2 w0 blk off d w) (h1:m≠a+1) (h2:b≠m+1) (ha:a<m) (hm:m<b) (hb:b≤d0.size) (hq:m≤(a+b) / 2) (hA:uV key d a m) (hB:uV key d m b) :
 Calls Tryz.prog 149 #[.slice (some ⟨blk,off,none⟩) d0.size cap,.int .i64 a,.int .i64 m,.int .i64 b,.func (.func g) #[] #[]] w fun e w'=>e = .returned (.tuple #[])∧∃ d',SWK qy 2 w0 blk off d' w'∧MG key d a b d'∧uV key d' a b:=by
 have mixed:Tryz.prog.follows .mixedOrders=true:=by kernel_rfl
 have S0:Aside (SWK qy 2 w0 blk off d w):=S;have HC:=Y7 hC;have HCF:=Y7 hcf;have SA:=Y7 hA;have SB:=Y7 hB;have IH:=Y7 hIH;clear S hC hcf hA hB hIH;have h1z:¬ (m:Int)-(a:Int)=1:=by omega
 have h1b:((m:Int)-(a:Int)==1)=false:=beq_eq_false_iff_ne.2 h1z;have h2z:¬ (b:Int)-(m:Int)=1:=by omega
 have h2b:((b:Int)-(m:Int)==1)=false:=beq_eq_false_iff_ne.2 h2z;obtain⟨q,hqd⟩:∃ q,q=(a+b) / 2:=⟨_,rfl⟩;have Q:((a:Int)+(b:Int)) / 2=(q:Int):=by omega
 have q1:2*q≤a+b:=by omega
 have q2:a+b≤2*q+1:=by omega
 rw[← hqd] at hq;clear hqd h1 h2;have Z2:¬ (m:Int)>(q:Int):=by omega
 go_enter Tryz.func149,Tryz.ntmps149
 go_wp2
 go_loopg [20,21] (m-a) (fun kx s20 s21 wr=>∃ (i j:Nat),s20 = .int .i64 i∧s21 = .int .i64 j∧a≤i∧i≤j∧j≤m∧j-i≤kx∧Aside (SWK qy 2 w0 blk off d wr)∧Aside (a<i→key d[i-1]! ≤ key d[q+m-i]!)∧Aside (j<m→key d[q+m-1-j]! < key d[j]!))
 case atStart=>exact⟨a,m,rfl,rfl,ay _,by omega,ay _,ay _,S0,(fun h=>by omega),(fun h=>by omega)⟩
 case round=>
  clear S0;obtain⟨i,j,rfl,rfl,hai,hij,hjb,hkx,S1,HL,HR⟩:=hrel
  by_cases hlt:i<j
  ·have hltz:(i:Int)<(j:Int):=by omega
   obtain⟨c,hcd⟩:∃ c,c=(i+j) / 2:=⟨_,rfl⟩;have C:((i:Int)+(j:Int)) / 2=(c:Int):=by omega
   have c1':i≤c:=by omega
   have c2':c<j:=by omega
   clear hcd;obtain⟨pc,hpd⟩:∃ pc,pc=q+m-1-c:=⟨_,rfl⟩;have PC:(q:Int)+(m:Int)-1-(c:Int)=(pc:Int):=by omega
   have pc1:pc<d0.size:=by omega
   have R1:IntKind.i64.wrap ((q:Int)+(m:Int)-1-(c:Int))=(pc:Int):=by rw[PC,bD];omega
   have R2:IntKind.i64.wrap (pc:Int)=(pc:Int):=by rw[bD];omega
   have pc2:(pc:Int)<(d0.size:Int):=by omega
   have cc2:(c:Int)<(d0.size:Int):=by omega
   have c0:=fun n' os'=>(rU S1.o R hs pc (by omega) n' os').1
   have c1:=fun n' os'=>(rU S1.o R hs pc (by omega) n' os').2
   have e0:=fun n' os'=>(rU S1.o R hs c (by omega) n' os').1
   have e1:=fun n' os'=>(rU S1.o R hs c (by omega) n' os').2
   have hc:=fun n' os'=>GI S1.o HC.o hs d[pc]! d[c]! n' os'
   have HPD:=Y7 hpd;clear hpd;cases hv:decide (cf d[pc]! d[c]! < 0) with
   | false=>
     have HX:=Y7 (fun h=>dF hv ((HCF.o _ _).2 h));generalize d[pc]! = x at c0 c1 hc hv;generalize d[c]! = y at e0 e1 hc hv
     go_wp2_with fail
     go_quiet_grown (first|(go_at_fn g;refine eG (hc _ _)))
     have S2:Aside (SWK qy 2 w0 blk off d (grow (wr.drewN nq) osq)):=S1.o.grown nq osq;clear c0 c1 e0 e1 hc S1;generalize grow (wr.drewN nq) osq=w2 at S2 ⊢;clear nq osq;go_wp2
     go_roundg (j-(c+1))
     case measure=>omega
     case rel=>exact⟨c+1,j,by go_num,rfl,by omega,by omega,hjb,ay _,S2,(fun _=>by rw[show c+1-1=c from rfl,show q+m-(c+1)=pc from by rw[HPD.o];omega];exact Int.not_lt.1 HX.o),HR⟩
   | true=>
     have HX:=Y7 ((HCF.o _ _).1 (aM hv));generalize d[pc]! = x at c0 c1 hc hv;generalize d[c]! = y at e0 e1 hc hv
     go_wp2_with fail
     go_quiet_grown (first|(go_at_fn g;refine eG (hc _ _)))
     have S2:Aside (SWK qy 2 w0 blk off d (grow (wr.drewN nq) osq)):=S1.o.grown nq osq;clear c0 c1 e0 e1 hc S1;generalize grow (wr.drewN nq) osq=w2 at S2 ⊢;clear nq osq;go_wp2
     go_roundg (c-i)
     case measure=>omega
     case rel=>exact⟨i,c,rfl,rfl,hai,by omega,by omega,ay _,S2,HL,(fun _=>by rw[← HPD.o];exact HX.o)⟩
  ·obtain rfl:i=j:=by omega
   have hltz:¬ (i:Int)<(i:Int):=by omega
   have ZW:a≤i:=by omega
   have him:i≤m:=by omega
   obtain⟨e,hed⟩:∃ e,e=q+m-i:=⟨_,rfl⟩;have E:(q:Int)+(m:Int)-(i:Int)=(e:Int):=by omega
   have E1:e+i=q+m:=by omega
   have HL':a<i→e<b→key d[i-1]! ≤ key d[e]! := fun h1 h2=>by rw[hed];exact HL.o (by omega)
   have HR':i<m→m<e→key d[e-1]! < key d[i]! := fun h1 h2=>by rw[hed,show q+m-i-1=q+m-1-i from by omega];exact HR.o (by omega)
   have HLL:=Y7 HL';have HRR:=Y7 HR';have e3:m≤e:=by omega
   have e4:e≤b:=by omega
   have e5:i≤q:=by omega
   have e6:q≤e:=by omega
   clear HL HR hed HL' HR'
   go_upto_region 38 with (fail)
   rename_i hK;have HE:=Y7 E
   go_cut [24] (fun v wx=>v = .int .i64 (e:Int)∧YW.oO.oM (wx=wr))
   case first=>
    go_wp2_with fail
    go_meet
    exact⟨rfl,⟨rfl⟩⟩
   case rest=>
    obtain⟨rfl,hw1⟩:=hcut;have T0:SWK qy 2 w0 blk off d wc:=by rw[hw1.o];exact S1
    refine hK _ _ ?_;exact symMerge.t39 g cf key blk off cap d0 w0 R hsz n IH.o a m b q i e d wc hn hs T0 hm hb q1 q2 ZW him E1 e3 e4 e5 e6 SA.o SB.o HLL.o HRR.o
theorem symMerge.step (g:Nat)(cf:qG→qG→Int)(key:qG→Int)(hcf:∀ x y,cf x y<0↔key x<key y)(eg:∀ args w,(callFunc g args).run Tryz.prog w = .ok (.enter g args) w)
 (blk off cap:Nat) (d0:Array qG) (w0:World) (R:RowK qy 2 w0 blk off d0) (hC:CmpLays Tryz.prog g #[] qy 2 cf blk off d0.size w0) (hsz:d0.size<4611686018427387904) (n:Nat) (hIH:FM g cf key blk off cap d0 w0 n):FM g cf key blk off cap d0 w0 (n+1):=by
 intro a m b d w hn hs S ha hm hb hA hB
 by_cases h1:m=a+1
 ·exact symMerge.left g cf key hcf eg blk off cap d0 w0 R hC hsz a m b d w h1 hs S (by omega) hb (by rw[← h1];exact hB)
 ·by_cases h2:b=m+1
  ·exact symMerge.right g cf key hcf eg blk off cap d0 w0 R hC hsz a m b d w h2 hs S h1 ha hb hA
  ·by_cases hq:(a+b) / 2<m
   ·exact symMerge.hi g cf key hcf eg blk off cap d0 w0 R hC hsz n hIH a m b d w hn hs S h1 h2 ha hm hb hq hA hB
   ·exact symMerge.lo g cf key hcf eg blk off cap d0 w0 R hC hsz n hIH a m b d w hn hs S h1 h2 ha hm hb (by omega) hA hB
theorem symMerge.c (g:Nat)(cf:qG→qG→Int)(key:qG→Int)(hcf:∀ x y,cf x y<0↔key x<key y)(eg:∀ args w,(callFunc g args).run Tryz.prog w = .ok (.enter g args) w)
 (blk off cap:Nat) (d0:Array qG) (w0:World) (R:RowK qy 2 w0 blk off d0) (hC:CmpLays Tryz.prog g #[] qy 2 cf blk off d0.size w0) (hsz:d0.size<4611686018427387904):∀ n,FM g cf key blk off cap d0 w0 n
 | 0=>fun a m b d w hn hs S ha hm hb hA hB=>by omega
 | n+1=>symMerge.step g cf key hcf eg blk off cap d0 w0 R hC hsz n (symMerge.c g cf key hcf eg blk off cap d0 w0 R hC hsz n)
end Go.Proofs.Y.PA
namespace Go.Proofs
open Go.Shelf Go.RowKit Go.Lib Go.Sort
def Tryz.MR:Go.Shelf.Ren:=⟨fun | 20=>148 | n=>n,fun | 24=>70 | 22=>49 | 3=>3 | 25=>160 | 4=>4 | 0=>0 | n=>n,fun | n=>n⟩
theorem Tryz.VG:Go.Proofs.SlLaysF0.n20 Tryz.prog Tryz.MR:={
 mixed:=by kernel_rfl
 f20:=⟨Tryz.f148.name,by decide,Tryz.func148.trans (eU some (by kernel_rfl))⟩
 t0:=Tryz.underlying0
 a0:=Tryz.isAgg0
 z0:=Tryz.sizeOf0
 v0:=Tryz.zeroValue0
 t3:=Tryz.underlying3
 a3:=Tryz.isAgg3
 z3:=Tryz.sizeOf3
 v3:=Tryz.zeroValue3
 t4:=Tryz.underlying4
 a4:=Tryz.isAgg4
 z4:=Tryz.sizeOf4
 v4:=Tryz.zeroValue4
 t22:=Tryz.underlying49
 a22:=Tryz.isAgg49
 z22:=Tryz.sizeOf49
 v22:=Tryz.zeroValue49
 t25:=Tryz.underlying160
 a25:=Tryz.isAgg160
 z25:=Tryz.sizeOf160
 v25:=Tryz.zeroValue160 }
end Go.Proofs
namespace Go.Proofs.Y.PA
open Go.Shelf Go.RowKit Go.Lib Go.Sort
theorem TK:∀ w,(isAgg 70).run Tryz.prog w = .ok true w:=fun w=>by kernel_rfl
theorem Qj:∀ w,(Go.sizeOf 70).run Tryz.prog w = .ok 2 w:=fun w=>by kernel_rfl
theorem Gt {c s a:Nat}(h1:c∣s)(h2:c∣a)(h:s<a):s+c≤a:=by
 have:=Nat.le_of_dvd (by omega) (Nat.dvd_sub h2 h1);omega
section
variable {α:Type} [Inhabited α] {key:α→Int}
def LC (key:α→Int)(d:Array α)(c n lo:Nat):Prop:=∀ s,c∣s→lo≤s→uV key d s (min (s+c) n)
def LA (key:α→Int)(d:Array α)(c hi:Nat):Prop:=∀ s,c∣s→s<hi→uV key d s (s+c)
theorem uV.keep {d d':Array α}{a b x y:Nat}(h:uV key d x y)(hm:MG key d a b d')(ho:y≤a∨b≤x):uV key d' x y:=fun i j h1 h2 h3=>by
 rw[hm.2.1 i (by omega),hm.2.1 j (by omega)];exact h i j h1 h2 h3
theorem uV.sub {d:Array α}{x y x' y':Nat}(h:uV key d x y)(h1:x≤x')(h2:y'≤y):uV key d x' y':=fun i j a b c=>h i j (by omega) b (by omega)
theorem LA.step {d d':Array α}{c a:Nat}(h:LA key d c a)(ha:c∣a)(hm:MG key d a (a+c) d')(hs:uV key d' a (a+c)):LA key d' c (a+c):=fun s h1 h2=>by
 rcases Nat.lt_trichotomy s a with h3 | rfl | h3
 ·exact (h s h1 h3).keep hm (.inl (Gt h1 ha h3))
 ·exact hs
 ·have:=Gt ha h1 h3;omega
theorem LC.step {d d':Array α}{c n a e:Nat}(h:LC key d c n a)(hm:MG key d a e d')(he:a≤e):LC key d' c n e:=fun s h1 h2=>(h s h1 (by omega)).keep hm (.inr (by omega))
theorem X3.first {d d':Array α}{c n a:Nat}(hc:0<c)(h:LA key d c a)(ha:c∣a)(h1:a≤n)(h2:n<a+c)(hm:MG key d a n d')(hs:uV key d' a n):LC key d' c n 0:=fun s h3 _=>by
 rcases Nat.lt_trichotomy s a with h4 | rfl | h4
 ·have:=Gt h3 ha h4;exact ((h s h3 h4).keep hm (.inl this)).sub (ay _) (by omega)
 ·exact hs.sub (ay _) (by omega)
 ·have:=Gt ha h3 h4;exact fun i j _ _ _=>by omega
end
theorem stable.c (g:Nat)(cf:qG→qG→Int)(key:qG→Int)(hcf:∀ x y,cf x y<0↔key x<key y)(eg:∀ args w,(callFunc g args).run Tryz.prog w = .ok (.enter g args) w)(hC:∀ blk off size w,CmpLays Tryz.prog g #[] qy 2 cf blk off size w)
 (blk off cap:Nat) (d:Array qG) (w:World) (R:RowK qy 2 w blk off d) (hsz:d.size<1152921504606846976) :
 Calls Tryz.prog 131 #[.slice (some ⟨blk,off,none⟩) d.size cap,.int .i64 d.size,.func (.func g) #[] #[]] w fun e w'=>e = .returned (.tuple #[])∧∃ d',SWK qy 2 w blk off d' w'∧MG key d 0 d.size d'∧uV key d' 0 d.size:=by
 have hlt:∀ x y,ltOf cf x y=true↔key x<key y:=fun x y=>by unfold ltOf;rw[jR];exact hcf x y
 have INS:∀ (a b:Nat) (dk:Array qG) (W:World),SWK qy 2 w blk off dk W→dk.size=d.size→a≤b→b≤d.size →
  Calls Tryz.prog 148 #[.slice (some ⟨blk,off,none⟩) d.size cap,.int .i64 a,.int .i64 b,.func (.func g) #[] #[]] W fun e w'=>e = .returned (.tuple #[])∧∃ d',SWK qy 2 w blk off d' w'∧MG key dk a b d'∧uV key d' a b:=fun a b dk W S hs hab hb=>by
  have h:=kS Tryz.VG 2 TK Qj qy (fun _=>rfl) Ht cf g #[] blk off cap a b dk W eg (hC _ _ _ _) (S.holds R.hblk R.hH hs) (S.lt R.hblk) hab (by omega) (by omega);rw[hs] at h;refine kI h ?_;rintro e w' ⟨he,n,os,rfl⟩;have hz:(Sort.insertionSort (ltOf cf) dk a b).size=dk.size:=(Fa (fun x y=>(hlt x y).1) dk a b hab (by omega)).1;exact⟨he,_,S.on R.hblk n _ os hz,Fa (fun x y=>(hlt x y).1) dk a b hab (by omega),KO hlt dk a b hab (by omega)⟩
 have IN:=Y7 INS;have SY:=Y7 (fun k=>symMerge.c g cf key hcf eg blk off cap d w R (hC _ _ _ _) (by omega) k);have S0:Aside (SWK qy 2 w blk off d w):=SWK.start R.hH;have RR:=Y7 R;obtain⟨n,hn⟩:∃ n,n=d.size:=⟨_,rfl⟩;have HN:=Y7 hn;rw[← hn] at IN hsz ⊢;clear INS hlt hcf eg hC R hn
 go_enter Tryz.func131,Tryz.ntmps131
 go_wp2
 go_loopg [7,8] n (fun kx s7 s8 wr=>∃ (a:Nat) (dk:Array qG),s7 = .int .i64 a∧s8 = .int .i64 (a+20:Nat)∧a≤n∧n-a≤kx∧dk.size=n∧Aside (SWK qy 2 w blk off dk wr)∧YW.oO.oM (20∣a)∧Aside (LA key dk 20 a)∧Aside (MG key d 0 n dk))
 case atStart=>exact⟨0,d,rfl,rfl,bP _,by omega,HN.o.symm,S0,⟨kY _⟩,(fun s h1 h2=>by omega),MG.refl _ _ _⟩
 case round=>
  clear S0;obtain⟨a,dk,rfl,rfl,han,hkx,hds,S1,HD,HB,HM⟩:=hrel
  by_cases hlt:a+20≤n
  ·have hltz:((a+20:Nat):Int)≤(n:Int):=by omega
   have hc:=Y7 (IN.o a (a+20) dk wr S1.o (by omega) (by omega) (by omega))
   go_wp2_with (first|(go_at_call 148;refine hc.o.mono ?_;rintro _ w1 ⟨rfl,d1,hS,hm1,hs1⟩;have T1:Aside (SWK qy 2 w blk off d1 w1):=hS;have M1:=Y7 hm1;have R1:=Y7 hs1;clear hS hm1 hs1))
   go_roundg (n-(a+20))
   case measure=>omega
   case rel=>exact⟨a+20,d1,by go_num,by go_num,hlt,ay _,M1.o.1.trans hds,T1,⟨jX HD.o (jD _)⟩,HB.o.step HD.o M1.o R1.o,HM.o.trans (M1.o.wide (bP _) (by omega) (by omega))⟩
  ·have hltz:¬ ((a+20:Nat):Int)≤(n:Int):=by omega
   have aaY:¬ (a:Int)+20≤(n:Int):=by omega
   have hc:=Y7 (IN.o a n dk wr S1.o (by omega) (by omega) (by omega))
   go_wp2_with (first|(go_at_call 148;refine hc.o.mono ?_;rintro _ w1 ⟨rfl,d1,hS,hm1,hs1⟩;have T1:Aside (SWK qy 2 w blk off d1 w1):=hS;have M1:=Y7 hm1;have R1:=Y7 hs1;clear hS hm1 hs1))
   go_loopg [6,7,8,9] n (fun kx s6 s7 s8 s9 wr=>∃ (c:Nat) (dk:Array qG),s6 = .int .i64 c∧20≤c∧(c=20∨c<2*n)∧n-c≤kx∧dk.size=n∧Aside (SWK qy 2 w blk off dk wr)∧Aside (LC key dk c n 0)∧Aside (MG key d 0 n dk))
   case atStart=>exact⟨20,d1,rfl,by omega,.inl rfl,by omega,M1.o.1.trans hds,T1,X3.first (by omega) HB.o HD.o (by omega) (by omega) M1.o R1.o,HM.o.trans (M1.o.wide (bP _) (by omega) (by omega))⟩
   case round=>
    clear S1 T1 M1 R1 HB HM hc HD hkx hds;obtain⟨c,dk,rfl,hc1,hc2,hkx,hds,S1,HB,HM⟩:=hrel
    by_cases hcn:c<n
    ·have air:(c:Int)<(n:Int):=by omega
     go_wp2
     go_loopg [7,8] n (fun kx s7 s8 wr=>∃ (a:Nat) (dk:Array qG),s7 = .int .i64 a∧s8 = .int .i64 ((a:Int)+2*(c:Int))∧a≤n∧n-a≤kx∧dk.size=n∧Aside (SWK qy 2 w blk off dk wr)∧YW.oO.oM (2*c∣a)∧Aside (LA key dk (2*c) a)∧Aside (LC key dk c n a)∧Aside (MG key d 0 n dk))
     case atStart=>exact⟨0,dk,rfl,by go_num,bP _,by omega,hds,S1,⟨kY _⟩,(fun s h1 h2=>by omega),HB,HM⟩
     case round=>
      clear S1 HB HM hds;obtain⟨a,dk,rfl,rfl,han,aeG,hds,S1,HD,HB,HF,HM⟩:=hrel;have dca:c∣a:=Nat.dvd_trans (Nat.dvd_mul_left _ _) HD.o;have HDC:=Y7 dca;clear dca
      by_cases hlt2:a+2*c≤n
      ·have aaZ:((a+2*c:Nat):Int)≤(n:Int):=by omega
       have afY:(a:Int)+2*(c:Int)≤(n:Int):=by omega
       have hA:uV key dk a (a+c):=(HF.o a HDC.o (ay _)).sub (ay _) (by omega);have hB:uV key dk (a+c) (a+2*c):=(HF.o (a+c) (jX HDC.o (jD _)) (by omega)).sub (ay _) (by omega);have hc:=Y7 (SY.o n a (a+c) (a+2*c) dk wr (by omega) (by rw[hds];exact HN.o) S1.o (by omega) (by omega) (by rw[← HN.o];exact hlt2) hA hB);rw[← HN.o,show ((a+c:Nat):Int)=(a:Int)+(c:Int) from by omega,show ((a+2*c:Nat):Int)=(a:Int)+2*(c:Int) from by omega] at hc;clear hA hB
       go_wp2_with (first|(go_at_call 149;refine hc.o.mono ?_;rintro _ w1 ⟨rfl,d1,hS,hm1,hs1⟩;have T1:Aside (SWK qy 2 w blk off d1 w1):=hS;have M1:=Y7 hm1;have R1:=Y7 hs1;clear hS hm1 hs1))
       go_roundg (n-(a+2*c))
       case measure=>omega
       case rel=>exact⟨a+2*c,d1,by go_num,by go_num,hlt2,ay _,M1.o.1.trans hds,T1,⟨jX HD.o (jD _)⟩,HB.o.step HD.o M1.o R1.o,HF.o.step M1.o (by omega),HM.o.trans (M1.o.wide (bP _) (by omega) (by omega))⟩
      ·have aaZ:¬ ((a+2*c:Nat):Int)≤(n:Int):=by omega
       have afY:¬ (a:Int)+2*(c:Int)≤(n:Int):=by omega
       by_cases hm:a+c<n
       ·have hmz:(a:Int)+(c:Int)<(n:Int):=by omega
        have hA:uV key dk a (a+c):=(HF.o a HDC.o (ay _)).sub (ay _) (by omega);have hB:uV key dk (a+c) n:=(HF.o (a+c) (jX HDC.o (jD _)) (by omega)).sub (ay _) (by omega);have hc:=Y7 (SY.o n a (a+c) n dk wr (by omega) (by rw[hds];exact HN.o) S1.o (by omega) (by omega) (by rw[← HN.o];exact ay _) hA hB);rw[← HN.o,show ((a+c:Nat):Int)=(a:Int)+(c:Int) from by omega] at hc;clear hA hB
        go_wp2_with (first|(go_at_call 149;refine hc.o.mono ?_;rintro _ w1 ⟨rfl,d1,hS,hm1,hs1⟩;have T1:Aside (SWK qy 2 w blk off d1 w1):=hS;have M1:=Y7 hm1;have R1:=Y7 hs1;clear hS hm1 hs1))
        go_roundg (n-c*2)
        case measure=>omega
        case rel=>exact⟨c*2,d1,by go_num,by omega,.inr (by omega),by omega,M1.o.1.trans hds,T1,(by rw[dX c 2];exact X3.first (by omega) HB.o HD.o han (by omega) M1.o R1.o),HM.o.trans (M1.o.wide (bP _) (ay _) han)⟩
       ·have hmz:¬ (a:Int)+(c:Int)<(n:Int):=by omega
        have HS:=Y7 (show uV key dk a n from (HF.o a HDC.o (ay _)).sub (ay _) (by omega));go_wp2
        go_roundg (n-c*2)
        case measure=>omega
        case rel=>exact⟨c*2,dk,by go_num,by omega,.inr (by omega),by omega,hds,S1,(by rw[dX c 2];exact X3.first (by omega) HB.o HD.o han (by omega) (MG.refl _ _ _) HS.o),HM⟩
    ·have air:¬ (c:Int)<(n:Int):=by omega
     go_wp2;go_end0;exact⟨rfl,dk,S1.o,HM.o,(HB.o 0 (kY _) (ay _)).sub (ay _) (by omega)⟩
theorem OY.c (g:Nat)(cf:qG→qG→Int)(key:qG→Int)(hcf:∀ x y,cf x y<0↔key x<key y)(eg:∀ args w,(callFunc g args).run Tryz.prog w = .ok (.enter g args) w)(hC:∀ blk off size w,CmpLays Tryz.prog g #[] qy 2 cf blk off size w)
 (blk off cap:Nat) (d:Array qG) (w:World) (R:RowK qy 2 w blk off d) (hsz:d.size<1152921504606846976) :
 Calls Tryz.prog 109 #[.slice (some ⟨blk,off,none⟩) d.size cap,.func (.func g) #[] #[]] w fun e w'=>e = .returned (.tuple #[])∧∃ d',SWK qy 2 w blk off d' w'∧MG key d 0 d.size d'∧uV key d' 0 d.size:=by
 have HI:=Y7 (stable.c g cf key hcf eg hC blk off cap d w R hsz);clear R hsz hcf eg hC;generalize d.size=n at *
 go_enter Tryz.func109,Tryz.ntmps109
 go_wp2_with (first|(go_at_call 131;refine HI.o.mono ?_;rintro e w' ⟨rfl,hw'⟩;have HW:=Y7 hw';clear hw'))
 go_end0;exact⟨rfl,HW.o⟩
end Go.Proofs.Y.PA

/- Of the law rZIQDumpBack. -/
import Derived.Test.YtcgbgifbajdhpaaGreatDoorZI20
import Derived.Test.YtcgbgifbajdhpaaGreatDoorZI35
import Derived.Test.YtcgbgifbajdhpaaGreatDoorZI25
import Derived.Test.YtcgbgifbajdhpaaGreatDoorZI38
set_option linter.unusedVariables false
set_option linter.unusedSimpArgs false
set_option maxHeartbeats 8000000
set_option maxRecDepth 100000
namespace Go
abbrev nA:=@List.filterMap_cons
abbrev nZ:=@List.flatMap_map
abbrev og:=@List.flatMap_def
abbrev oN:=@List.length_filter_le
end Go
namespace Go.Proofs.Y.PA
open Go.RowKit Go.Proofs.Y.G Go.Proofs.YW.o7 Go.Proofs.YW.pJ Go.Proofs.YW.pO
def vZ (l:List qC)(j:Nat):List qC:=(l.take (j*20+zq l.length j)).drop (j*20)
theorem AL (l:List qC)(j:Nat):(vZ l j).length=zq l.length j:=by
 unfold vZ zq;rw[bB,bG];omega
theorem D5 {l:List qC}{j:Nat}{x:qC}(h:x∈vZ l j):x∈l:=dO (dU h)
theorem Mv (l:List qC)(j i:Nat)(h:i<zq l.length j):pV (vZ l j) (i:Int)=pV l ((j*20+i:Nat):Int):=by
 simp only[pV,bf,bn,vZ,fF,dH];rw[ak (by omega)]
theorem Dv {l:List qC}(h:uZ l=true)(j:Nat):uZ (vZ l j)=true:=by
 unfold uZ at h ⊢;rw[AL];simp only[dx,iq,jL,gJ] at h ⊢;refine⟨fun i hi=>?_,by unfold zq;omega⟩;rw[Mv l j i (by omega),Mv l j (i+1) (by omega)];exact h.1 (j*20+i) (by unfold zq at hi;omega)
theorem Gp {q:List qC}(hq:q.length≤20)(hok:∀ x∈q,Dn x)(hc:uZ q=true):(uJ q).length≤410:=by
 have h1:=(N9 (uN q q.length) _ (aD _)).1;rw[Vi] at h1;rw[uJ,bg,qE];have h3:=yg q hok q.length (aD _);have:=h1.near;omega
noncomputable def wU (u:List Int)(q:List qC):List Int:=sS (u.length+(uJ q).length) 4++(u++(uJ q))
noncomputable def VR (u:List Int)(l:List qC)(k:Nat):List Int:=(List.range k).flatMap fun j=>wU u (vZ l j)
noncomputable def Gr (x:qJ):List Int:=VR (vM x.f0) x.f1 ((x.f1.length+19) / 20)
noncomputable def wB (l:List qJ):List Int:=l.flatMap Gr
theorem Eo {u:List Int}{q:List qC}(hu:u.length≤600)(hq:q.length≤20)(hok:∀ x∈q,Dn x)(hc:uZ q=true):(wU u q).length≤1014:=by
 have:=Gp hq hok hc;rw[wU,bg,bg,qE];omega
theorem Qg (l:List qJ)(k:Nat)(h:k<l.length):wB (l.take (k+1))=wB (l.take k)++Gr (pK l (k:Int)):=by
 have e:pK l (k:Int)=l[k]:=by simp[pK,bn,aQ h]
 rw[cZ h,e,wB,wB,jV];simp
theorem DF {l:List rW}(h:rF l=true):(vM l).length≤600:=by
 have h1:=Cu h l.length (aD _);have h2:=(uQ h).2.1;rw[Gn] at h1;omega
theorem Qf (l:List qJ)(k:Nat):(wB (l.take k)).length≤(wB l).length:=by
 have h:wB l=wB (l.take k)++wB (l.drop k):=by
  unfold wB;rw[← jV,fA]
 rw[h,bg];omega
noncomputable def zy (u:List Int)(l:List qC)(ks:List Nat):List Int:=ks.flatMap fun j=>wU u (vZ l j)
theorem NC (u:List Int)(l:List qC)(ks:List Nat)(k:Nat):zy u l (ks++[k])=zy u l ks++wU u (vZ l k):=by simp[zy,jV]
theorem Jd {u:List Int}{l:List qC}(hu:u.length≤600)(hok:∀ x∈l,Dn x)(hc:uZ l=true):∀ ks:List Nat,(zy u l ks).length≤1014*ks.length
 | []=>by simp[zy]
 | k::ks=>by
   have ih:=Jd hu hok hc ks;have:=Eo (q:=vZ l k) hu (by rw[AL];unfold zq;omega) (fun x hx=>hok x (D5 hx)) (Dv hc k);have e:zy u l (k::ks)=wU u (vZ l k)++zy u l ks:=rfl;rw[e,bg,bC];omega
structure But (O B:Nat) (a b:World):Prop where
 os:b.os=a.os
 tape:b.tape=a.tape
 output:b.output=a.output
 size:a.heap.size≤b.heap.size
 block:∀ k,k<B→k≠O→b.heap[k]? = a.heap[k]?
theorem But.refl (O B:Nat)(a:World):But O B a a:=⟨rfl,rfl,rfl,aD _,fun _ _ _=>rfl⟩
theorem But.trans {O B:Nat}{a b c:World}(h:But O B a b)(k:But O B b c):But O B a c:=
 ⟨k.os.trans h.os,k.tape.trans h.tape,k.output.trans h.output,bM h.size k.size,fun i hi hn=>(k.block i hi hn).trans (h.block i hi hn)⟩
theorem But.of_below {O B:Nat}{a b:World}(h:Below B a b):But O B a b:=⟨h.os,h.tape,h.output,h.size,fun k hk _=>h.block k hk⟩
theorem But.below {O B n:Nat}{a b:World}(h:But O B a b)(h1:n≤O)(h2:n≤B):Below n a b:=⟨h.os,h.tape,h.output,h.size,fun k hk=>h.block k (by omega) (by omega)⟩
theorem But.setCell {O B:Nat}{a b:World}(h:But O B a b)(i:Nat)(v:Value):But O B a (b.setCell ⟨O,i,none⟩ v):=
 ⟨h.os,h.tape,h.output,by simpa using h.size,fun k hk hn=>(fZ b ⟨O,i,none⟩ v k hn).trans (h.block k hk hn)⟩
theorem But.grown {O B:Nat}{a b c:World}{row:Option Nat}(h:But O B a b)(hg:b.grownBy c row)(hB:B≤a.heap.size)(hr:∀ r,row=some r→B≤r):But O B a c:=
 ⟨hg.os.trans h.os,hg.tape.trans h.tape,hg.output.trans h.output,bM h.size hg.size,fun k hk hn=>(hg.block k (by have:=h.size;omega) (fun e=>by have:=hr k e.symm;omega)).trans (h.block k hk hn)⟩
theorem Rx {α:Type}{d:Kd α}{e base:Nat}{w1 w2:World}{v:Value}{xs:List α}{row:Option Nat}(h:Kd.R d e w1 base (fun _=>True) v xs)(hg:w1.grownBy w2 row)(hr:∀ r,row=some r→∃ o:Obj,w1.heap[r]? = some o∧o.isCells=false):Kd.R d e w2 base (fun _=>True) v xs:=
 Kd.sD (Kd.JM (Kd.vD h) hg (fun k hk he=>by
  obtain⟨o,ho,hc⟩:=hr k he.symm;obtain⟨q,_,cells,hcl⟩:=hk.2.2.2;rw[hcl] at ho;injection ho with ho
  subst ho;cases hc)) (fun _ _=>dD)
def VW (D:Nat):Deferred:={ target := .collected D,args := #[] }
theorem CO {F:Fence}{n:Nat}{P:Program}{fn:Func}{tmps:Array Value}{R:Ending→World→Prop}(M:World→Prop)(hend:∀ W,M W→LeavesInM F n P fn tmps R [] .returning W) :
 ∀ (Ds:List Nat) (W:World),Ds.Nodup→(∀ D∈Ds,W.heap[D]? = some (.deferred (some [])))→(∀ D∈Ds,∀ W,M W→W.heap[D]? = some (.deferred (some []))→M (W.putObj D (.deferred none)))→M W→LeavesInM F n P fn tmps R (Ds.map VW) .returning W
 | [],W,_,_,_,hM=>hend W hM
 | D::Ds,W,hn,hD,hS,hM=>by
   have h0:=hD D (by simp);refine⟨by simp,.inl ⟨D,_,rfl,run_takeDeferred h0,?_⟩⟩;rw[List.nodup_cons] at hn;refine CO M hend Ds _ hn.2 (fun D' h'=>?_) (fun D' h'=>hS D' (by simp[h'])) (hS D (by simp) W hM h0);rw[lX (fun e=>hn.1 (by subst e;exact h'))];exact hD D' (by simp[h'])
theorem strOfNums_bytes (s:ByteArray):strOfNums (bytesOf s)=s:=by
 apply ByteArray.ext;apply Array.ext';simp[strOfNums,bytesOf,Function.comp_def]
theorem G5 (s:ByteArray)(y:List Int):uL (LK s++y)=some (s,y):=by
 have hl:(bytesOf s).length=s.size:=bytesOf_length s;simp only[LK,gH,uL];rw[bf,aK (by rw[bg,hl];omega),← hl,gF,jr,strOfNums_bytes]
 ·rfl
 ·rfl
theorem I8 (l:List rW)(r:List Int):∀ k,k≤l.length→sM (l.flatMap J9++r) k=some (l.take k,(l.drop k).flatMap J9++r)
 | 0,_=>by simp[sM]
 | k+1,h=>by
   rw[sM,I8 l r k (by omega),fH (by omega:k<l.length),cZ (by omega:k<l.length)];simp only[dS,List.flatMap_cons,J9,bH];rw[G5];simp only[dS];rw[G5];rfl
theorem Qd (l:List rW)(r:List Int)(h:rF l=true):rR (vM l++r)=(l,r,0):=by
 have h1:=I8 l r l.length (aD _);rw[dW,mE] at h1;simp only[List.flatMap_nil,dL] at h1;simp only[vM,gH,rR,bf];rw[h1];simp only[h,nE]
theorem Qh {l:List rW}(h:rF l=true):okB (vM l)=true:=by
 have hp:=uQ h;have hb:∀ s:ByteArray,∀ x∈bytesOf s,0≤x∧x<256:=fun s x hx=>by
  simp only[bytesOf,nV] at hx;obtain⟨c,_,rfl⟩:=hx;exact⟨by omega,by have:=c.toNat_lt;omega⟩
 have ht:∀ s:ByteArray,s.size<256→∀ x∈LK s,0≤x∧x<256:=fun s hs x hx=>by
  rcases List.mem_cons.1 hx with rfl | hx
  ·omega
  ·exact hb s x hx
 refine rT.2 fun x hx=>?_
 rcases List.mem_cons.1 hx with rfl | hx
 ·have:=hp.2.1;omega
 ·obtain⟨y,hy,hx⟩:=List.mem_flatMap.1 hx;obtain⟨k,hk,rfl⟩:=List.mem_iff_getElem.1 hy;have hs:=BN (hp.2.2 k hk);have e:qM l (k:Int)=l[k]:=by simp[qM,bn,aQ hk]
  rw[e] at hs;rcases List.mem_append.1 hx with hx | hx
  ·exact ht _ (by omega) x hx
  ·exact ht _ (by omega) x hx
theorem vP (N i:Nat):okB (sS N i)=true:=rT.2 fun x hx=>K7 N i x hx
theorem xL {a b:List Int}(ha:okB a=true)(hb:okB b=true):okB (a++b)=true:=rT.2 fun x hx=>(List.mem_append.1 hx).elim (rT.1 ha x) (rT.1 hb x)
end Go.Proofs.Y.PA
namespace Go.Proofs.Y.PA
def vI (x:qJ):List qJ:=(List.range ((x.f1.length+19) / 20)).map (fun j=>⟨x.f0,vZ x.f1 j⟩)
def qz (l:List qJ):List qJ:=l.flatMap vI
noncomputable def vY (p:qJ):List Int:=wU (vM p.f0) p.f1
theorem Gj (l:List qJ):wB l=(qz l).flatMap vY:=by
 rw[wB,qz,List.flatMap_assoc];congr 1
 funext x
 rw[Gr,VR,vI,nZ];rfl
theorem GZ (l:List qC):∀ k,(List.range k).flatMap (fun j=>vZ l j)=l.take (k*20)
 | 0=>by simp
 | k+1=>by
   rw[oz,jV,GZ l k,List.flatMap_singleton];unfold vZ zq;apply iY;intro i;rw[List.getElem?_append,bG]
   by_cases h:i<min (k*20) l.length
   ·rw[ak h,dH,dH,ak (by omega),ak (by omega)]
   ·rw[aK h,fF,dH,dH]
    by_cases h2:i<l.length
    ·have e:k*20+(i-min (k*20) l.length)=i:=by omega
     rw[e]
     by_cases h3:i<(k+1)*20
     ·rw[ak (by omega),ak h3]
     ·rw[aK (by omega),aK h3]
    ·rw[show l[i]? = none from dK (by omega)];have:l[k*20+(i-min (k*20) l.length)]? = none:=dK (by omega);rw[this];split<;>split<;>rfl
theorem Lm (t:List rW)(f0:List rW):∀ qs:List (List qC),tL t (qs.map (fun q=>⟨f0,q⟩))=if cmpL f0 t=0 then qs.flatten else []
 | []=>by simp[tL]
 | q::qs=>by
   rw[dJ,tL,Lm t f0 qs];split<;>simp
theorem Lp (t:List rW)(x:qJ):tL t (vI x)=if cmpL x.f0 t=0 then x.f1 else []:=by
 have h:vI x=((List.range ((x.f1.length+19) / 20)).map (fun j=>vZ x.f1 j)).map (fun q=>⟨x.f0,q⟩):=by rw[vI,nX];rfl
 rw[h,Lm];rw[show ((List.range ((x.f1.length+19) / 20)).map (fun j=>vZ x.f1 j)).flatten=x.f1 from by
  rw[← og,GZ,jB (by omega)]]
theorem Ga (t:List rW):∀ l:List qJ,tL t (qz l)=tL t l
 | []=>rfl
 | x::l=>by
   rw[show qz (x::l)=vI x++qz l from rfl,vg,Lp,Ga t l];rfl
theorem NS {l:List qJ}(h:vE l)(hn:∀ x∈l,x.f1≠[])(hs:∀ x∈l,Rs x.f1):joinL (qz l)=l:=
 Lj (Dt _) h (Fj _) hn (fun t=>by rw[Dw,Ga,← Dw,Qn h hn hs])
theorem JY {l:List qC}(h:Rs l)(hl:l.length≤65535):uZ l=true:=by
 unfold uZ;rw[dx,iq];refine⟨fun i hi=>aM ?_,aM hl⟩;have hi:=List.mem_range.1 hi;have:=JQ h (i:=i) (j:=i+1) (by omega) (by omega)
 simpa [pV] using this
theorem PW {l:List qJ}(h:vE l)(hn:∀ x∈l,x.f1≠[])(hs:∀ x∈l,Rs x.f1)(hlab:∀ x∈l,rF x.f0=true)(h65:∀ x∈l,x.f1.length≤65535):uH l=true:=
 Fa fun j hj=>by
  have hm:=yJ l j hj;unfold IC;rw[Am (hlab _ hm) (fun e=>hn _ hm (dG e)) (JY (hs _ hm) (h65 _ hm)),jl];rcases fP j with h0 | h0
  ·rw[aM h0];rfl
  ·have:=FU h (i:=j-1) (j:=j) (by omega) hj;rw[aM this,oV]
end Go.Proofs.Y.PA
namespace Go.Proofs.Y.PA
open Go.RowKit Go.Proofs.Y.G Go.Proofs.YW.o7 Go.Proofs.YW.pJ Go.Proofs.YW.pO
def wZ (l:List qJ):List qJ:=(joinL l).filter (fun x=>rF x.f0)
def Im (p:qJ):Prop:=rF p.f0=true∧uZ p.f1=true∧(∀ s∈p.f1,Dn s)∧1≤p.f1.length∧p.f1.length≤20
theorem Qy {l:List qC}{j:Nat}(h:j<(l.length+19) / 20):1≤(vZ l j).length∧(vZ l j).length≤20:=by
 rw[AL];unfold zq;omega
theorem AO {l:List qJ}(hz:KL l)(hc:∀ x∈l,rF x.f0=true∧uZ x.f1=true):∀ p∈qz l,Im p:=fun p hp=>by
 obtain⟨x,hx,hp⟩:=List.mem_flatMap.1 hp;obtain⟨j,hj,rfl⟩:=List.mem_map.1 hp;have h2:=Qy (List.mem_range.1 hj);exact⟨(hc x hx).1,Dv (hc x hx).2 j,fun s hs=>(hz x hx).2.2.2 s (D5 hs),h2.1,h2.2⟩
theorem Qi {p:qJ}(h:Im p):1≤(vY p).length∧(vY p).length≤1014:=by
 refine⟨?_,Eo (DF h.1) h.2.2.2.2 h.2.2.1 h.2.1⟩;rw[vY,wU,bg,qE];omega
theorem NG {r:List qJ}(hr:r.length≤8)(hz:KL r)(h10:∀ x∈r,x.f0.length≤10)(h60:∀ x∈r,x.f1.length≤60) :
 KL (wZ r)∧(wZ r).length≤8∧(∀ x∈wZ r,x.f1.length≤480)∧uH (wZ r)=true∧(∀ p∈qz (wZ r),Im p)∧joinL (qz (wZ r))=wZ r:=by
 have ht:tot r≤480:=bM (Ia h60) (dM 60 hr);have hm:∀ x∈wZ r,x∈joinL r∧rF x.f0=true:=fun x hx=>by
  have:=List.mem_filter.1 hx;exact this
 have hS:vE (wZ r):=(Dt r).sublist List.filter_sublist;have hn:∀ x∈wZ r,x.f1≠[]:=fun x hx=>Fj r x (hm x hx).1
 have hR:∀ x∈wZ r,Rs x.f1:=fun x hx=>O5 r x (hm x hx).1
 have afw:∀ x∈wZ r,x.f1.length≤480:=fun x hx=>bM (Au (hm x hx).1).2 ht
 have hZ:KL (wZ r):=fun x hx=>by
  obtain⟨⟨s,hs,e⟩,h2⟩:=Au (hm x hx).1;refine⟨by rw[e];exact (hz s hs).1,by rw[e];exact (hz s hs).2.1,by have:=afw x hx;omega,fun q hq=>?_⟩;obtain⟨y,hy,rfl⟩:=List.mem_map.1 (hm x hx).1;have hq:q∈tY [] y.f1:=hq;rcases zx y.f1 [] hq with h | h
  ·cases h
  ·obtain⟨s',hs',hq'⟩:=BI r y hy q h;exact (hz s' hs').2.2.2 q hq'
 have hcS:∀ x∈wZ r,rF x.f0=true∧uZ x.f1=true:=fun x hx=>⟨(hm x hx).2,JY (hR x hx) (by have:=afw x hx;omega)⟩
 refine⟨hZ,bM (oN ..) (bM (DU r) hr),afw,PW hS hn hR (fun x hx=>(hm x hx).2) (fun x hx=>by have:=afw x hx;omega),AO hZ hcS,NS hS hn hR⟩
theorem Qz {l:List qJ}{n:Nat}(h:∀ x∈l,x.f1.length≤20*n):(qz l).length≤l.length*n:=by
 induction l with
 | nil=>simp[qz]
 | cons x l ih=>
   rw[show qz (x::l)=vI x++qz l from rfl,bg,bC,iL];have h1:=ih (fun y hy=>h y (dh _ hy));have h2:=h x bK;have h3:(vI x).length=(x.f1.length+19) / 20:=by simp[vI]
   omega
def Dy (b:List Int):Nat:=qF.more 0 b
def Et (k n:Nat)(p:List Int):List Int:=[208,215,(k:Int)]++sS n 4++sS p.length 2++p
def yx (k n:Nat)(p:List Int):List Int:=Et k n p++sS (Dy (Et k n p)) 4
structure Fr where
 kind:Nat
 num:Nat
 pay:List Int
def wh (b:List Int):Option Fr:=
 if b.length<13 then none else
 if rd b 0≠208∨rd b 1≠215∨rd b 2<1∨3<rd b 2 then none else
 if 1000<yA 0 ((b.drop 7).take 2)∨b.length<13+yA 0 ((b.drop 7).take 2) then none else
 if Dy (b.take (9+yA 0 ((b.drop 7).take 2)))≠yA 0 ((b.drop (9+yA 0 ((b.drop 7).take 2))).take 4) then none else
 some ⟨(rd b 2).toNat,yA 0 ((b.drop 3).take 4),(b.take (9+yA 0 ((b.drop 7).take 2))).drop 9⟩
def uW (f:Fr):Nat:=13+f.pay.length
def yB:Nat→List Int→List Fr
 | 0,_=>[]
 | k+1,b=>if b.length=0 then [] else match wh b with
   | none=>yB k (b.drop 1)
   | some f=>f::yB k (b.drop (uW f))
def um (b:List Int):List Fr:=yB b.length b
theorem wX {b:List Int}{f:Fr}(h:wh b=some f):uW f≤b.length∧f.pay.length≤1000∧f.pay.length=yA 0 ((b.drop 7).take 2)∧13≤b.length:=by
 unfold wh at h;split at h
 ·cases h
 ·split at h
  ·cases h
  ·split at h
   ·cases h
   ·split at h
    ·cases h
    ·injection h with h
     subst h;unfold uW;simp only[bB,bG];omega
theorem Ar:∀ (k k':Nat) (b:List Int),b.length≤k→b.length≤k'→yB k b=yB k' b
 | 0,0,b,_,_=>rfl
 | 0,k'+1,b,h,_=>by rw[yB,yB,ak (by omega)]
 | k+1,0,b,_,h=>by rw[yB,yB,ak (by omega)]
 | k+1,k'+1,b,h,h'=>by
   rw[yB,yB];split
   ·rfl
   ·split
    ·exact Ar k k' _ (by rw[bB];omega) (by rw[bB];omega)
    ·rename_i f hf;have:=(wX hf).1;unfold uW at this;rw[Ar k k' (b.drop (uW f)) (by rw[bB];unfold uW;omega) (by rw[bB];unfold uW;omega)]
theorem Cz:um []=[]:=rfl
theorem Jh {b:List Int}(h:b.length≠0)(hb:wh b=none):um b=um (b.drop 1):=by
 unfold um;obtain⟨k,hk⟩:∃ k,b.length=k+1:=⟨b.length-1,by omega⟩;rw[hk,yB,aK h,hb];exact Ar _ _ _ (by rw[bB];omega) (aD _)
theorem DN {b:List Int}{f:Fr}(hb:wh b=some f):um b=f::um (b.drop (uW f)):=by
 have hl:=wX hb;unfold um;obtain⟨k,hk⟩:∃ k,b.length=k+1:=⟨b.length-1,by omega⟩;rw[hk,yB,aK (by omega),hb];simp only;rw[Ar k (b.drop (uW f)).length _ (by rw[bB];unfold uW;omega) (aD _)]
theorem Fg (k n:Nat)(p:List Int):(Et k n p).length=9+p.length:=by
 simp only[Et,bg,qE,bC,fK]
theorem wC (k n:Nat)(p:List Int):(yx k n p).length=13+p.length:=by
 rw[yx,bg,qE,Fg];omega
theorem OQ {b:List Int}(h:okB b=true):Dy b<4294967296:=qF.Va (by decide) (rT.1 h)
theorem NJ {k n:Nat}{p:List Int}(hk:k<256)(hp:okB p=true):okB (Et k n p)=true:=by
 refine xL (xL (xL (rT.2 fun x hx=>?_) (vP _ _)) (vP _ _)) hp;simp only[iU,iw,lN] at hx;rcases hx with rfl | rfl | rfl<;>omega
theorem NI {k n:Nat}{p:List Int}(hk:k<256)(hp:okB p=true):okB (yx k n p)=true:=xL (NJ hk hp) (vP _ _)
theorem xV {n i:Nat}(h:n<256 ^ i):yA 0 (sS n i)=n:=by
 rw[OG,iF,dX,jN h]
theorem RU {k n:Nat}{p:List Int}(r:List Int)(hk1:1≤k)(hk3:k≤3)(hn:n<4294967296)(hp:okB p=true)(hl:p.length≤1000):wh (yx k n p++r)=some ⟨k,n,p⟩:=by
 have hb4:(sS n 4).length=4:=qE _ _;have hb2:(sS p.length 2).length=2:=qE _ _;have hc4:(sS (Dy (Et k n p)) 4).length=4:=qE _ _;have hH:=Fg k n p;have hB:=wC k n p;have hL:(yx k n p++r).length=13+p.length+r.length:=by rw[bg,hB]
 have h0:rd (yx k n p++r) 0=208:=by simp[yx,Et,rd]
 have h1:rd (yx k n p++r) 1=215:=by simp[yx,Et,rd]
 have h2:rd (yx k n p++r) 2=(k:Int):=by simp[yx,Et,rd]
 have h3:((yx k n p++r).drop 3).take 4=sS n 4:=by
  have e:yx k n p++r=[208,215,(k:Int)]++(sS n 4++(sS p.length 2++p++sS (Dy (Et k n p)) 4++r)):=by simp only[yx,Et,bH]
  rw[e];simp only[gH,dL,iH,iA];exact gF hb4
 have h7:((yx k n p++r).drop 7).take 2=sS p.length 2:=by
  have e:yx k n p++r=([208,215,(k:Int)]++sS n 4)++(sS p.length 2++(p++sS (Dy (Et k n p)) 4++r)):=by simp only[yx,Et,bH]
  rw[e,jr (by rw[bg,hb4];rfl),gF hb2]
 have hs:yA 0 (((yx k n p++r).drop 7).take 2)=p.length:=by rw[h7,xV (by omega)]
 have ht:(yx k n p++r).take (9+p.length)=Et k n p:=by rw[yx,bH,gF hH]
 have hd:((yx k n p++r).drop (9+p.length)).take 4=sS (Dy (Et k n p)) 4:=by rw[yx,bH,jr hH,gF hc4]
 have hc:yA 0 (sS (Dy (Et k n p)) 4)=Dy (Et k n p):=xV (by have:=OQ (NJ (n:=n) (by omega:k<256) hp);omega);unfold wh;rw[aK (by omega),h0,h1,h2,aK (by omega),hs,aK (by omega),ht,hd,hc,aK (by simp),h3,xV (by omega),bf];congr 2
theorem yZ {k n:Nat}{p:List Int}(r:List Int)(hk1:1≤k)(hk3:k≤3)(hn:n<4294967296)(hp:okB p=true)(hl:p.length≤1000):um (yx k n p++r)=⟨k,n,p⟩::um r:=by
 rw[DN (RU r hk1 hk3 hn hp hl)];congr 2;exact jr (by rw[wC,uW])
structure Pt where
 num:Nat
 ser:qJ
noncomputable def zh (p:List Int):Option qJ:=
 if (rR p).2.2≠0 then none else
 if (xA (rR p).2.1).2≠0∨(xA (rR p).2.1).1.length=0∨20<(xA (rR p).2.1).1.length then none else
 some ⟨(rR p).1,(xA (rR p).2.1).1⟩
noncomputable def tT (f:Fr):Option Pt:=if f.kind=2 then (zh f.pay).map (fun s=>⟨f.num,s⟩) else none
def Br (p:Pt):List Pt→List Pt
 | []=>[p]
 | q::l=>if p.num<q.num then p::q::l else q::Br p l
def zY (l:List Pt):List Pt:=l.foldl (fun a p=>Br p a) []
noncomputable def BR (b:List Int):List Pt:=(um b).filterMap tT
noncomputable def sF (b:List Int):List qJ:=(zY (BR b)).map (·.ser)
noncomputable def vJ (p:qJ):List Int:=vM p.f0++uJ p.f1
noncomputable def qY:Nat→List qJ→List Int
 | _,[]=>[]
 | i,p::l=>yx 2 (i+1) (vJ p)++qY (i+1) l
noncomputable def q9 (l:List qJ):List Int:=
 yx 1 0 (sS (qz l).length 4)++(qY 0 (qz l)++yx 3 ((qz l).length+1) (sS (tot l) 8))
noncomputable def vB (l:List qJ):List Int × Int:=if uH l=true then (q9 l,0) else ([],1)
noncomputable def xq (b:List Int):List qJ × Int:=
 if vB (joinL (sF b))=(b,0) then (joinL (sF b),0) else ([],5)
theorem AP {p:qJ}(h:Im p):okB (vJ p)=true∧(vJ p).length≤1000:=by
 have hu:=DF h.1;have he:=Gp h.2.2.2.2 h.2.2.1 h.2.1;refine⟨xL (Qh h.1) (UZ p.f1 (by have:=h.2.2.2.2;omega) h.2.2.1 h.2.1),?_⟩;have h1:=Cu h.1 p.f0.length (aD _);have h2:=(uQ h.1).2.1;rw[Gn] at h1;rw[vJ,bg];omega
theorem Ns {p:qJ}(h:Im p):zh (vJ p)=some p:=by
 have hd:=(OT p.f1 h.2.2.1 (by have:=h.2.2.2.2;omega) h.2.1).2.1;have h1:=h.2.2.2.1;have h2:=h.2.2.2.2;rw[zh,vJ,Qd p.f0 (uJ p.f1) h.1];simp only[ne_eq,not_true_eq_false,if_false,hd,false_or];rw[aK (by omega)]
def wV:Nat→List qJ→List Pt
 | _,[]=>[]
 | i,p::l=>⟨i+1,p⟩::wV (i+1) l
theorem Eu:∀ (l:List qJ) (i:Nat) (r:List Int),(∀ p∈l,Im p)→i+l.length<4294967296→(um (qY i l++r)).filterMap tT=wV i l++(um r).filterMap tT∧(um (qY i l++r)).length=l.length+(um r).length
 | [],i,r,_,_=>by simp[qY,wV]
 | p::l,i,r,h,hi=>by
   have hp:=h p bK;have ho:=AP hp;rw[bC] at hi;rw[qY,bH,yZ _ (by decide) (by decide) (by omega) ho.1 ho.2];obtain⟨h1,h2⟩:=Eu l (i+1) r (fun q hq=>h q (dh _ hq)) (by omega);refine⟨?_,by rw[bC,h2,bC];omega⟩;rw[nA];simp only[tT,nE,Ns hp,lq];rw[h1];rfl
theorem EF:∀ (l:List qJ) (i:Nat),(wV i l).map (·.ser)=l
 | [],_=>rfl
 | p::l,i=>by rw[wV,dJ,EF l (i+1)]
theorem GL (p:Pt):∀ l:List Pt,(∀ q∈l,q.num≤p.num)→Br p l=l++[p]
 | [],_=>rfl
 | q::l,h=>by
   have h1:=h q bK;rw[Br,aK (by omega),GL p l (fun x hx=>h x (dh _ hx))];rfl
theorem MU:∀ (l:List qJ) (i:Nat) (a:List Pt),(∀ q∈a,q.num≤i)→(wV i l).foldl (fun a p=>Br p a) a=a++wV i l
 | [],_,a,_=>by simp[wV]
 | p::l,i,a,h=>by
   rw[wV,jc,GL _ _ (fun q hq=>by have:=h q hq;show q.num≤i+1;omega),MU l (i+1) _ (fun q hq=>by
    rcases List.mem_append.1 hq with h1 | h1
    ·have:=h q h1;omega
    ·rw[gu] at h1;rw[h1];exact aD _)]
   simp
theorem Es {l:List qJ}(h:∀ p∈qz l,Im p)(hn:(qz l).length+1<4294967296):sF (q9 l)=qz l∧(um (q9 l)).length=(qz l).length+2:=by
 have hb:okB (sS (qz l).length 4)=true:=vP _ _;have h4:(sS (qz l).length 4).length=4:=qE _ _;have ht:okB (sS (tot l) 8)=true:=vP _ _;have h8:(sS (tot l) 8).length=8:=qE _ _;obtain⟨h1,h2⟩:=Eu (qz l) 0 (yx 3 ((qz l).length+1) (sS (tot l) 8)) h (by omega);have h3:um (yx 3 ((qz l).length+1) (sS (tot l) 8))=[⟨3,(qz l).length+1,sS (tot l) 8⟩]:=by
  have:=yZ (k:=3) (n:=(qz l).length+1) [] (by decide) (by decide) (by omega) ht (by omega);rwa [fq,Cz] at this
 have hw:um (q9 l)=⟨1,0,sS (qz l).length 4⟩::um (qY 0 (qz l)++yx 3 ((qz l).length+1) (sS (tot l) 8)):=yZ _ (by decide) (by decide) (by decide) hb (by omega);have hp:BR (q9 l)=wV 0 (qz l):=by
  rw[BR,hw,nA];simp only[tT,show ((1:Nat)=2)=False by decide,if_false];rw[h1,h3];simp[tT]
 refine⟨?_,by rw[hw,bC,h2,h3];simp⟩;rw[sF,hp,zY,MU _ _ _ (fun q hq=>by cases hq),dL,EF]
theorem Hl {l:List qJ}(hc:uH l=true)(h:∀ p∈qz l,Im p)(hj:joinL (qz l)=l)(hn:(qz l).length+1<4294967296):xq (q9 l)=(l,0):=by
 rw[xq,(Es h hn).1,hj,vB,ak hc,ak rfl]
theorem zQ:∀ (l:List qJ) (i:Nat),(∀ p∈l,Im p)→okB (qY i l)=true∧(qY i l).length≤1013*l.length
 | [],_,_=>⟨rfl,by simp[qY]⟩
 | p::l,i,h=>by
   have ho:=AP (h p bK);obtain⟨h1,h2⟩:=zQ l (i+1) (fun q hq=>h q (dh _ hq));refine⟨xL (NI (by decide) ho.1) h1,?_⟩;rw[qY,bg,wC,bC];omega
theorem El {l:List qJ}(h:∀ p∈qz l,Im p):okB (q9 l)=true∧(q9 l).length≤1013*(qz l).length+38:=by
 obtain⟨h1,h2⟩:=zQ (qz l) 0 h;refine⟨xL (NI (by decide) (vP _ _)) (xL h1 (NI (by decide) (vP _ _))),?_⟩;rw[q9,bg,bg,wC,wC,qE,qE];omega
theorem Bb (tmps:Array Value)(W:World)(r:Nat)(x0 x1:Value)(h:W.heap[r]? = some (.cells #[x0,x1] 51 (0,0)))(h2:tmps.getD 2 undef = .pointer (some ⟨r,0,none⟩)) :
 (results Tryz.f112 tmps).run Tryz.prog W = .ok (.tuple #[.agg #[x0,x1],tmps.getD 3 undef]) W:=by
 have c0:=(pq h 0).trans rfl;have c1:=(pq h 1).trans rfl;simp at h2;simp[results,Tryz.f112,go_sem,h2,c0,c1]
def xI (w:World)(f:Fr)(e:Ending)(w':World):Prop:=∃ (A1 A2:Option Addr) (n1 c1 n2 c2:Nat) (ok:Bool),e = .returned (.tuple #[.agg #[.slice A1 n1 c1,.slice A2 n2 c2],.bool ok])∧Below w.heap.size w w'∧(ok=false∧tT f=none∨ok=true∧∃ s:qJ,tT f=some ⟨f.num,s⟩∧s.f1.length≤20∧s.f0.length≤8∧Kd.R wE 68 w' w.heap.size (fun _=>True) (.slice A1 n1 c1) s.f0∧Kd.R vk 70 w' w.heap.size (fun _=>True) (.slice A2 n2 c2) s.f1)
theorem xI.none_ {w W:World}{f:Fr}{A1 A2:Option Addr}{n1 c1 n2 c2:Nat}(h:tT f=none)(hb:Below w.heap.size w W):xI w f (.returned (.tuple #[.agg #[.slice A1 n1 c1,.slice A2 n2 c2],.bool false])) W:=
 ⟨A1,A2,n1,c1,n2,c2,false,rfl,hb,.inl ⟨rfl,h⟩⟩
theorem x9 {w W:World}{x0 x1:Value}(hb:Below w.heap.size w W):Below w.heap.size w ((W.setCell ⟨w.heap.size+1,0,none⟩ x0).setCell ⟨w.heap.size+1,1,none⟩ x1):=
 (hb.setCell (p:=⟨w.heap.size+1,0,none⟩) (mg _) _).setCell (p:=⟨w.heap.size+1,1,none⟩) (mg _) _
theorem zO {w:World}{g t:Nat}{o0 o1:Value}(h:w.heap[g]? = some (.cells #[o0,o1] t (0,0)))(x0 x1:Value):((w.setCell ⟨g,0,none⟩ x0).setCell ⟨g,1,none⟩ x1).heap[g]? = some (.cells #[x0,x1] t (0,0)):=
 qH (qH h 0 _ rfl) 1 _ rfl
theorem Rw {α:Type}{d:Kd α}{e g B:Nat}{W:World}{v x0 x1:Value}{xs:List α}(h:d.R e W B (fun _=>True) v xs)(hg:g<B):d.R e ((W.setCell ⟨g,0,none⟩ x0).setCell ⟨g,1,none⟩ x1) B (fun _=>True) v xs:=by
 have h1:=Kd.sD (ok':=fun k=>k≠g) (Kd.vD h) (fun k hk=>by have:=hk.2.1;omega);exact Kd.sD (Kd.uG (Kd.uG h1 (p:=⟨g,0,none⟩) (fun _ hk=>hk) _) (p:=⟨g,1,none⟩) (fun _ hk=>hk) _) (fun _ _=>dD)
theorem UU (b:List Int):(rR b).1.length≤8:=by
 cases b with
 | nil=>simp[rR]
 | cons a r=>
   simp only[rR];split
   ·simp
   ·split
    ·rename_i h;exact (uQ h).2.1
    ·simp
theorem series.c (f:Fr)(A:Option Addr)(c m:Nat)(w:World)(hm:f.pay.length=m)(hr:Kd.C (Kd.int .u8) w A m f.pay)(hc:m≤c)(hok:okB f.pay=true)(hl:m≤1000)(hT:xZ w) :
 Calls Tryz.prog 112 #[.agg #[.int .i64 f.kind,.int .i64 f.num,.slice A m c]] w (xI w f):=by
 have HX:=Yu (by have h1:=qG (w.alloc (.cells #[.int .i64 f.kind,.int .i64 f.num,.slice A m c] 80 (0,0))) (.cells #[.slice none 0 0,.slice none 0 0] 51 (0,0));rw[eG] at h1;exact h1);have HX1:=Yu (pU (qG w (.cells #[.int .i64 f.kind,.int .i64 f.num,.slice A m c] 80 (0,0))) (.cells #[.slice none 0 0,.slice none 0 0] 51 (0,0)));have HBA:=Yu (o8 (o8 (bq w.heap.size w) (.cells #[.int .i64 f.kind,.int .i64 f.num,.slice A m c] 80 (0,0))) (.cells #[.slice none 0 0,.slice none 0 0] 51 (0,0)))
 by_cases hk:f.kind=2
 ·have hki:((f.kind:Int) != 2)=false:=by rw[hk];rfl
  have DL:oZ (∀ W,Below w.heap.size w W→Calls Tryz.prog 132 #[.slice A m c] W (vC W f.pay)):=⟨fun W hb=>rR.c A c m f.pay W hm (Kd.pI hr hb) hc hok (by omega)⟩;obtain⟨rl,rr,re,hd⟩:∃ rl rr re,rR f.pay=(rl,rr,re):=⟨_,_,_,rfl⟩;have HD:=Yu hd;have HRR:oZ (okB rr=true∧rr.length≤2500∧rl.length≤8):=⟨by
   have h1:=NA f.pay;have h2:=UU f.pay;rw[hd] at h1 h2;exact⟨xM hok h1.1,by have:=h1.2;simp only at this;omega,h2⟩⟩
  have HCB:oZ (tT f=(if re≠0 then none else if (xA rr).2≠0∨(xA rr).1.length=0∨20<(xA rr).1.length then none else some ⟨rl,(xA rr).1⟩:Option qJ).map (fun s=>⟨f.num,s⟩)):=⟨by rw[tT,ak hk,zh,hd]⟩;clear hok hr hd hm hk
  by_cases hre:re=0
  ·subst hre;obtain⟨sl,se,hs⟩:∃ sl se,xA rr=(sl,se):=⟨_,_,rfl⟩;have HDE:oZ (∀ A' c' W,Kd.C (Kd.int .u8) W A' rr.length rr→rr.length≤c'→Below w.heap.size w W→Calls Tryz.prog 133 #[.slice A' rr.length c'] W fun e w'=>∃ v:Value,e = .returned (.tuple #[v,.int .i64 se])∧Kd.R vk 70 w' W.heap.size (fun _=>True) v sl∧Below W.heap.size W w'):=⟨fun A' c' W h1 h2 hb=>zi.qP A' c' rr W sl se rfl h1 h2 HRR.o.1 HRR.o.2.1 (hT.below hb) hs⟩;rw[hs] at HCB;simp only[ne_eq,not_true_eq_false,if_false] at HCB;clear hs hT
   by_cases hs0:se=0
   ·subst hs0;have e0:((0:Int)==0)=true:=by decide
    by_cases hl0:sl.length=0
    ·have HE:oZ (tT f=none):=⟨by rw[HCB.o,ak (.inr (.inl hl0))];rfl⟩;have ajw:¬ ((0:Int)<(sl.length:Int)):=by omega
     have ajx:¬ (0<sl.length):=by omega
     clear HCB hl0
     go_enter Tryz.func112,Tryz.ntmps112
     go_wp2_with (first|(go_at_call 132;(with_reducible refine (DL.o _ HBA.o).mono ?_);rintro e w2 ⟨v1,v2,rfl,h1,h2,hb⟩;rw[HD.o] at h1 h2 ⊢;dsimp only at h1 h2 ⊢;obtain⟨A7,c7,rfl⟩:=Kd.qo h1;obtain⟨A8,c8,rfl⟩:=Kd.qo h2;have HV1:=Yu h1;have HV2:=Yu h2;have HB2:=Yu (o9 HBA.o hb);have HX2:=Yu (pG HX.o hb);have q0:=(pq HX2.o 0).trans rfl;have q1:=(pq HX2.o 1).trans rfl;have y0:=pE HX2.o 0;have y1:=pE HX2.o 1;clear hb h1 h2)|(go_at_call 133;(with_reducible refine (HDE.o A8 c8 _ (Kd.pR HV2.o).2.2 (Kd.pR HV2.o).2.1 HB2.o).mono ?_);rintro e w3 ⟨v3,rfl,h3,hb⟩;obtain⟨A9,c9,rfl⟩:=Kd.qo h3;have HV3:=Yu h3;have afx:=Yu (Kd.qO HV1.o hb);have HB3:=Yu (o9 HB2.o hb);have HX3:=Yu (pG HX2.o hb);clear q0 q1 y0 y1;have q0:=(pq HX3.o 0).trans rfl;have q1:=(pq HX3.o 1).trans rfl;have y0:=pE HX3.o 0;have y1:=pE HX3.o 1;clear hb h3))
     refine bW (Bb _ _ (w.heap.size+1) _ _ (zO HX3.o _ _) rfl) rfl ?_;exact xI.none_ HE.o (x9 HB3.o)
    ·have ajw:(0:Int)<(sl.length:Int):=by omega
     have ajx:0<sl.length:=by omega
     by_cases hl2:20<sl.length
     ·have HE:oZ (tT f=none):=⟨by rw[HCB.o,ak (.inr (.inr hl2))];rfl⟩;have ajy:¬ ((sl.length:Int)≤20):=by omega
      clear HCB hl0 hl2
      go_enter Tryz.func112,Tryz.ntmps112
      go_wp2_with (first|(go_at_call 132;(with_reducible refine (DL.o _ HBA.o).mono ?_);rintro e w2 ⟨v1,v2,rfl,h1,h2,hb⟩;rw[HD.o] at h1 h2 ⊢;dsimp only at h1 h2 ⊢;obtain⟨A7,c7,rfl⟩:=Kd.qo h1;obtain⟨A8,c8,rfl⟩:=Kd.qo h2;have HV1:=Yu h1;have HV2:=Yu h2;have HB2:=Yu (o9 HBA.o hb);have HX2:=Yu (pG HX.o hb);have q0:=(pq HX2.o 0).trans rfl;have q1:=(pq HX2.o 1).trans rfl;have y0:=pE HX2.o 0;have y1:=pE HX2.o 1;clear hb h1 h2)|(go_at_call 133;(with_reducible refine (HDE.o A8 c8 _ (Kd.pR HV2.o).2.2 (Kd.pR HV2.o).2.1 HB2.o).mono ?_);rintro e w3 ⟨v3,rfl,h3,hb⟩;obtain⟨A9,c9,rfl⟩:=Kd.qo h3;have HV3:=Yu h3;have afx:=Yu (Kd.qO HV1.o hb);have HB3:=Yu (o9 HB2.o hb);have HX3:=Yu (pG HX2.o hb);clear q0 q1 y0 y1;have q0:=(pq HX3.o 0).trans rfl;have q1:=(pq HX3.o 1).trans rfl;have y0:=pE HX3.o 0;have y1:=pE HX3.o 1;clear hb h3))
      refine bW (Bb _ _ (w.heap.size+1) _ _ (zO HX3.o _ _) rfl) rfl ?_;show xI w f (.returned (.tuple #[.agg #[.slice A7 rl.length c7,.slice A9 sl.length c9],.bool (decide ((sl.length:Int)≤20))])) _;rw[aN (show ¬ ((sl.length:Int)≤20) by omega)];exact xI.none_ HE.o (x9 HB3.o)
     ·have HE:oZ (tT f=some ⟨f.num,⟨rl,sl⟩⟩):=⟨by rw[HCB.o,aK (by omega)];rfl⟩;have ajy:(sl.length:Int)≤20:=by omega
      have HL2:=Yu hl2;clear HCB hl0 hl2
      go_enter Tryz.func112,Tryz.ntmps112
      go_wp2_with (first|(go_at_call 132;(with_reducible refine (DL.o _ HBA.o).mono ?_);rintro e w2 ⟨v1,v2,rfl,h1,h2,hb⟩;rw[HD.o] at h1 h2 ⊢;dsimp only at h1 h2 ⊢;obtain⟨A7,c7,rfl⟩:=Kd.qo h1;obtain⟨A8,c8,rfl⟩:=Kd.qo h2;have HV1:=Yu h1;have HV2:=Yu h2;have HB2:=Yu (o9 HBA.o hb);have HX2:=Yu (pG HX.o hb);have q0:=(pq HX2.o 0).trans rfl;have q1:=(pq HX2.o 1).trans rfl;have y0:=pE HX2.o 0;have y1:=pE HX2.o 1;clear hb h1 h2)|(go_at_call 133;(with_reducible refine (HDE.o A8 c8 _ (Kd.pR HV2.o).2.2 (Kd.pR HV2.o).2.1 HB2.o).mono ?_);rintro e w3 ⟨v3,rfl,h3,hb⟩;obtain⟨A9,c9,rfl⟩:=Kd.qo h3;have HV3:=Yu h3;have afx:=Yu (Kd.qO HV1.o hb);have HB3:=Yu (o9 HB2.o hb);have HX3:=Yu (pG HX2.o hb);clear q0 q1 y0 y1;have q0:=(pq HX3.o 0).trans rfl;have q1:=(pq HX3.o 1).trans rfl;have y0:=pE HX3.o 0;have y1:=pE HX3.o 1;clear hb h3))
      refine bW (Bb _ _ (w.heap.size+1) _ _ (zO HX3.o _ _) rfl) rfl ?_;have hsz1:w.heap.size+1+1≤w3.heap.size:=rE HX3.o;have hsz2:w.heap.size+1+1≤w2.heap.size:=rE HX2.o;refine⟨_,_,_,_,_,_,true,rfl,x9 HB3.o,.inr ⟨rfl,⟨rl,sl⟩,HE.o,Nat.le_of_not_lt HL2.o,HRR.o.2.2,?_,?_⟩⟩
      ·exact Kd.sj (Rw (afx.o) (by rw[eG,eG];omega)) (by rw[eG,eG];omega)
      ·exact Kd.sj (Rw (HV3.o) (by omega)) (by omega)
   ·have HE:oZ (tT f=none):=⟨by rw[HCB.o,ak (.inl hs0)];rfl⟩;have Zl:(se==0)=false:=beq_eq_false_iff_ne.2 hs0;clear HCB hs0
    go_enter Tryz.func112,Tryz.ntmps112
    go_wp2_with (first|(go_at_call 132;(with_reducible refine (DL.o _ HBA.o).mono ?_);rintro e w2 ⟨v1,v2,rfl,h1,h2,hb⟩;rw[HD.o] at h1 h2 ⊢;dsimp only at h1 h2 ⊢;obtain⟨A7,c7,rfl⟩:=Kd.qo h1;obtain⟨A8,c8,rfl⟩:=Kd.qo h2;have HV1:=Yu h1;have HV2:=Yu h2;have HB2:=Yu (o9 HBA.o hb);have HX2:=Yu (pG HX.o hb);have q0:=(pq HX2.o 0).trans rfl;have q1:=(pq HX2.o 1).trans rfl;have y0:=pE HX2.o 0;have y1:=pE HX2.o 1;clear hb h1 h2)|(go_at_call 133;(with_reducible refine (HDE.o A8 c8 _ (Kd.pR HV2.o).2.2 (Kd.pR HV2.o).2.1 HB2.o).mono ?_);rintro e w3 ⟨v3,rfl,h3,hb⟩;obtain⟨A9,c9,rfl⟩:=Kd.qo h3;have HV3:=Yu h3;have afx:=Yu (Kd.qO HV1.o hb);have HB3:=Yu (o9 HB2.o hb);have HX3:=Yu (pG HX2.o hb);clear q0 q1 y0 y1;have q0:=(pq HX3.o 0).trans rfl;have q1:=(pq HX3.o 1).trans rfl;have y0:=pE HX3.o 0;have y1:=pE HX3.o 1;clear hb h3))
    refine bW (Bb _ _ (w.heap.size+1) _ _ (zO HX3.o _ _) rfl) rfl ?_;exact xI.none_ HE.o (x9 HB3.o)
  ·have HE:oZ (tT f=none):=⟨by rw[HCB.o,ak hre];rfl⟩;have akC:(re != 0)=true:=by simpa using hre
   clear HCB hre
   go_enter Tryz.func112,Tryz.ntmps112
   go_wp2_with (first|(go_at_call 132;(with_reducible refine (DL.o _ HBA.o).mono ?_);rintro e w2 ⟨v1,v2,rfl,h1,h2,hb⟩;rw[HD.o] at h1 h2 ⊢;dsimp only at h1 h2 ⊢;obtain⟨A7,c7,rfl⟩:=Kd.qo h1;obtain⟨A8,c8,rfl⟩:=Kd.qo h2;have HV1:=Yu h1;have HV2:=Yu h2;have HB2:=Yu (o9 HBA.o hb);have HX2:=Yu (pG HX.o hb);have q0:=(pq HX2.o 0).trans rfl;have q1:=(pq HX2.o 1).trans rfl;have y0:=pE HX2.o 0;have y1:=pE HX2.o 1;clear hb h1 h2))
   refine bW (Bb _ _ (w.heap.size+1) _ _ (zO HX2.o _ _) rfl) rfl ?_;exact xI.none_ HE.o (x9 HB2.o)
 ·have hki:((f.kind:Int) != 2)=true:=by simp;omega
  have HE:oZ (tT f=none):=⟨by rw[tT,aK hk]⟩;clear hr hok hT hm hk
  go_enter Tryz.func112,Tryz.ntmps112
  go_wp2_with fail
  refine bW (Bb _ _ (w.heap.size+1) _ _ HX.o rfl) rfl ?_;exact xI.none_ HE.o HBA.o
end Go.Proofs.Y.PA
namespace Go.Proofs.Y.PA
open Go.RowKit Go.Lib Go.Sort
section
variable {α β:Type}
def xB (key:α→Int)(p:α):List α→List α
 | []=>[p]
 | q::l=>if key p<key q then p::q::l else q::xB key p l
def EW (key:α→Int)(l:List α):List α:=l.foldl (fun a p=>xB key p a) []
def Dl (key:α→Int)(v:Int)(l:List α):List α:=l.filter (fun x=>decide (key x=v))
def Up (key:α→Int)(l:List α):Prop:=l.Pairwise (fun x y=>key x≤key y)
theorem L8 (key:α→Int)(p x:α):∀ l:List α,x∈xB key p l↔x=p∨x∈l
 | []=>by simp[xB]
 | q::l=>by
   rw[xB];split
   ·simp
   ·rw[iU,L8 key p x l,iU];constructor
    ·rintro (h | h | h)<;>simp[h]
    ·rintro (h | h | h)<;>simp[h]
theorem OY (key:α→Int)(p:α):∀ l:List α,Up key l→Up key (xB key p l)
 | [],_=>lZ _ _
 | q::l,h=>by
   obtain⟨h1,h2⟩:=List.pairwise_cons.1 h;rw[xB];split
   ·rename_i hp;refine List.pairwise_cons.2 ⟨fun x hx=>?_,h⟩;rcases List.mem_cons.1 hx with rfl | hx
    ·omega
    ·have:=h1 x hx;omega
   ·rename_i hp;refine List.pairwise_cons.2 ⟨fun x hx=>?_,OY key p l h2⟩;rcases (L8 key p x l).1 hx with rfl | hx
    ·omega
    ·exact h1 x hx
theorem RI {key:α→Int}{v:Int}{l:List α}(h:∀ x∈l,key x≠v):Dl key v l=[]:=by
 unfold Dl;rw[kr];intro x hx
 simpa using h x hx
theorem OX (key:α→Int)(p:α)(v:Int):∀ l:List α,Up key l→Dl key v (xB key p l)=Dl key v l++(if key p=v then [p] else [])
 | [],_=>by
   by_cases h:key p=v<;>simp[xB,Dl,h]
 | q::l,h=>by
   obtain⟨h1,h2⟩:=List.pairwise_cons.1 h;rw[xB];split
   ·rename_i hp
    by_cases hv:key p=v
    ·have hn:Dl key v (q::l)=[]:=RI (fun x hx=>by
      rcases List.mem_cons.1 hx with rfl | hx
      ·omega
      ·have:=h1 x hx;omega)
     rw[hn,ak hv];show (p::q::l).filter _=_;rw[ig,ak (by simpa using hv)];show p::Dl key v (q::l)=_;rw[hn];rfl
    ·rw[aK hv,fq];show (p::q::l).filter _=_;rw[ig,aK (by simpa using hv)];rfl
   ·have ih:=OX key p v l h2;show (q::xB key p l).filter _=(q::l).filter _++_;rw[ig,ig];split
    ·rw[gH];exact gG (q::·) ih
    ·exact ih
theorem Ke (key:α→Int):∀ (l a:List α),Up key a→Up key (l.foldl (fun a p=>xB key p a) a)∧∀ v,Dl key v (l.foldl (fun a p=>xB key p a) a)=Dl key v a++Dl key v l
 | [],a,h=>⟨h,fun v=>by simp[Dl]⟩
 | p::l,a,h=>by
   obtain⟨h1,h2⟩:=Ke key l (xB key p a) (OY key p a h);refine⟨h1,fun v=>?_⟩;rw[jc,h2 v,OX key p v a h,bH];congr 1;show _=(p::l).filter _;rw[ig]
   by_cases hv:key p=v<;>simp[hv,Dl]
theorem Vt (key:α→Int)(l:List α):Up key (EW key l):=(Ke key l [] List.Pairwise.nil).1
theorem Vs (key:α→Int)(l:List α)(v:Int):Dl key v (EW key l)=Dl key v l:=by
 rw[EW,(Ke key l [] List.Pairwise.nil).2 v];rfl
theorem Ay {key:α→Int}{x:α}{l:List α}:x∈Dl key (key x) l↔x∈l:=by simp[Dl]
theorem Ur (key:α→Int):∀ (a b:List α),Up key a→Up key b→(∀ v,Dl key v a=Dl key v b)→a=b
 | [],[],_,_,_=>rfl
 | [],y::b,_,_,h=>by
   have h1:y∈Dl key (key y) (y::b):=Ay.2 bK;rw[← h (key y)] at h1;simp[Dl] at h1
 | x::a,[],_,_,h=>by
   have h1:x∈Dl key (key x) (x::a):=Ay.2 bK;rw[h (key x)] at h1;simp[Dl] at h1
 | x::a,y::b,ha,hb,h=>by
   obtain⟨ha1,ha2⟩:=List.pairwise_cons.1 ha;obtain⟨hb1,hb2⟩:=List.pairwise_cons.1 hb;have hx:x∈y::b:=Ay.1 (by rw[← h (key x)];exact Ay.2 bK);have hy:y∈x::a:=Ay.1 (by rw[h (key y)];exact Ay.2 bK);have h1:key y≤key x:=by
    rcases List.mem_cons.1 hx with rfl | hx
    ·exact iR _
    ·exact hb1 x hx
   have h2:key x≤key y:=by
    rcases List.mem_cons.1 hy with rfl | hy
    ·exact iR _
    ·exact ha1 y hy
   have hk:key y=key x:=by omega
   have h3:=h (key x);have e1:Dl key (key x) (x::a)=x::Dl key (key x) a:=by
    show (x::a).filter _=_;rw[ig,ak (by simp)];rfl
   have e2:Dl key (key x) (y::b)=y::Dl key (key x) b:=by
    show (y::b).filter _=_;rw[ig,ak (by simp[hk])];rfl
   rw[e1,e2] at h3;injection h3 with h4 h5
   subst h4;rw[Ur key a b ha2 hb2 (fun v=>by
    by_cases hv:key x=v
    ·subst hv;exact h5
    ·have h6:=h v;have e3:∀ c:List α,Dl key v (x::c)=Dl key v c:=fun c=>by
      show (x::c).filter _=_;rw[ig,aK (by simpa using hv)];rfl
     rwa [e3,e3] at h6)]
theorem L6 (f:β→α)(key:α→Int)(p:β):∀ l:List β,(xB (fun x=>key (f x)) p l).map f=xB key (f p) (l.map f)
 | []=>rfl
 | q::l=>by
   rw[xB,dJ,xB];split
   ·rfl
   ·rw[dJ,L6 f key p l]
theorem MW (f:β→α)(key:α→Int)(l:List β):(EW (fun x=>key (f x)) l).map f=EW key (l.map f):=by
 have:∀ (l a:List β),(l.foldl (fun a p=>xB (fun x=>key (f x)) p a) a).map f=(l.map f).foldl (fun a p=>xB key p a) (a.map f):=by
  intro l
  induction l with
  | nil=>intro a;rfl
  | cons p l ih=>intro a;rw[jc,ih,L6,dJ,jc]
 exact this l []
theorem LZ (key:α→Int)(p:α):∀ l:List α,(xB key p l).length=l.length+1
 | []=>rfl
 | q::l=>by
   rw[xB];split
   ·rfl
   ·rw[bC,LZ key p l,bC]
theorem Hy (key:α→Int)(l:List α):(EW key l).length=l.length:=by
 have:∀ (l a:List α),(l.foldl (fun a p=>xB key p a) a).length=a.length+l.length:=by
  intro l
  induction l with
  | nil=>intro a;rfl
  | cons p l ih=>intro a;rw[jc,ih,LZ,bC];omega
 have h:=this l [];rw[fK,dX] at h;exact h
end
theorem Ma (p:Pt):∀ l:List Pt,Br p l=xB (fun q=>(q.num:Int)) p l
 | []=>rfl
 | q::l=>by
   rw[Br,xB,Ma p l]
   by_cases h:p.num<q.num
   ·rw[ak h,ak (by omega)]
   ·rw[aK h,aK (by omega)]
theorem Bc (l:List Pt):zY l=EW (fun q=>(q.num:Int)) l:=by
 unfold zY EW;congr 1
 funext a p
 exact Ma p a
end Go.Proofs.Y.PA
namespace Go.Proofs.Y.PA
open Go.RowKit Go.Proofs.Y.G Go.Proofs.YW.o7 Go.Proofs.YW.pJ Go.Proofs.YW.pO
def XM:Kd (List Int):=Kd.slice 5 (Kd.int .u8)
theorem U3:(Tryz.prog.info? 24).map (fun i=>(i.zero,i.size,i.bytes))=some (some (.slice none 0 0),1,24):=by kernel_rfl
theorem Yb (A:Option Addr)(n c lo hi:Nat)(h1:lo<hi)(h2:hi≤n)(hc:n≤c) :
 ∀ i j:Int,i=(lo:Int)→j=(hi:Int)→∀ W:World,(Instr.slice 24 (.slice A n c) (some (.int .i64 i)) (some (.int .i64 j)) (some (.int .i64 j))).run Tryz.prog W = .ok (.slice (A.map (·.add lo)) (hi-lo) (hi-lo)) W:=by
 intro i j hi' hj' W;subst hi' hj';obtain⟨i0,hi0,hsz⟩:=Kj;have hu:=Tryz.underlying24;have hel:Tryz.prog.elem 24=5:=by simp[Program.elem,hu]
 have hu':Tryz.prog.underlying 24=some (.slice (Tryz.prog.elem 24)):=by rw[hel];exact hu
 rw[run_slice_lhm W 24 A n c hu' .i64 .i64 .i64 (lo:Int) (hi:Int) (hi:Int) (by omega) (by omega) (by omega) (by omega),hel];simp only[sizeOf,typeInfo,jo,hi0,sliced,Result.andThen,hsz,bf];cases A<;>simp[go_sem,hi0,hsz,oU h1]
theorem TY (p:qJ)(h:Im p)(R:List Int):vY p++R=sS (vJ p).length 4++(vJ p++R)∧(vJ p).length≤1000∧0<(vJ p).length:=by
 refine⟨?_,(AP h).2,?_⟩
 ·rw[vY,wU,vJ,bg];simp only[bH]
 ·rw[vJ,bg,vM];simp only[bC];omega
theorem split.c (A:Option Addr)(c n:Nat)(P:List qJ)(w:World)(hok:∀ p∈P,Im p)(hn:(P.flatMap vY).length=n)(hr:Kd.C (Kd.int .u8) w A n (P.flatMap vY))(hc:n≤c)(hlen:n≤600000000)(hP:P.length≤1000000) :
 Calls Tryz.prog 29 #[.slice A n c] w fun e w'=>∃ v:Value,e = .returned v∧Kd.N XM 24 w' w.heap.size (fun _=>True) v (P.map vJ)∧Below w.heap.size w w':=by
 subst hn;have HOK:=Yu hok;have HF:=Yu (Kd.X7 (Kd.GH .u8) hr);clear hok hr
 go_enter Tryz.func29,Tryz.ntmps29
 go_wp2
 go_loopg [0,3] P.length (fun kx s0 s3 wr=>∃ (dn td:List qJ) (Ai:Option Addr) (ci:Nat),oZ (P=dn++td)∧td.length≤kx∧s0 = .slice Ai (td.flatMap vY).length ci∧(td.flatMap vY).length≤ci∧(td.flatMap vY).length≤600000000∧oZ (Kd.F (Kd.int .u8) w (fun k=>k<w.heap.size) Ai (td.flatMap vY).length (td.flatMap vY))∧oZ (Kd.N XM 24 wr w.heap.size (fun _=>True) s3 (dn.map vJ))∧oZ (Below w.heap.size w wr))
 case atStart=>exact⟨[],P,A,c,⟨rfl⟩,aD _,rfl,hc,hlen,HF,⟨Kd.IU _ _ _ _ _⟩,⟨bq _ _⟩⟩
 case round=>
  clear hc hlen HF;obtain⟨dn,td,Ai,ci,HPD,hkx,rfl,hci,hlen,HF,HN,HB⟩:=hrel;cases td with
  | nil=>
    have HN':oZ (Kd.N XM 24 wr w.heap.size (fun _=>True) u3 (P.map vJ)):=⟨by rw[HPD.o,fq];exact HN.o⟩;obtain⟨Av,cv,rfl⟩:=Kd.Ch HN'.o;go_wp2;go_ret;exact⟨_,rfl,HN'.o,HB.o⟩
  | cons p td=>
    have hp:Im p:=HOK.o p (by rw[HPD.o];simp);obtain⟨hS,hm1,hm0⟩:=TY p hp (td.flatMap vY);rw[show (p::td).flatMap vY=sS (vJ p).length 4++(vJ p++td.flatMap vY) from hS] at HF hci hlen ⊢;have hdl:dn.length+1≤1000000:=by have:=hP;rw[HPD.o] at this;simp at this;omega
    have HQ:oZ (okB (vJ p)=true):=⟨(AP hp).1⟩;have HMP:oZ ((dn++[p]).map vJ=dn.map vJ++[vJ p]):=⟨by simp⟩;have HDL:oZ ((dn.map vJ).length=dn.length):=⟨bJ ..⟩;clear hS hp;generalize hR:td.flatMap vY=R at *;generalize vJ p=q at *;have h4:(sS q.length 4).length=4:=qE _ _;have hlS:(sS q.length 4++(q++R)).length=4+q.length+R.length:=by rw[bg,bg,h4];omega
    have hS4:(sS q.length 4++(q++R)).take 4=sS q.length 4:=gF h4;have hSm:((sS q.length 4++(q++R)).take (4+q.length)).drop 4=q:=by
     rw[← bH,gF (by rw[bg,h4]),jr h4]
    have hSd:(sS q.length 4++(q++R)).drop (4+q.length)=R:=by
     rw[← bH,jr (by rw[bg,h4])]
    have GET:oZ (Calls Tryz.prog 63 #[.slice Ai 4 ci] wr fun e w'=>e = .returned (.tuple #[.int .u64 ((q.length:Nat):Int),.bool true])∧Below wr.heap.size wr w'):=⟨by
     have hC:=Kd.pI (Kd.KU HF.o) HB.o;have h1:=wz.c Ai ci (sS q.length 4) ((q.length:Nat):Int) true wr (by have h2:=Kd.zI hC (m:=4) (by omega);rwa [hS4] at h2) (by omega) (by rw[wz.f,ak (vP _ _),ak (by omega),xV (by omega)]);rw[h4] at h1;exact h1.mono fun e w' ⟨he,hd⟩=>⟨he,hd.below⟩⟩
    obtain⟨A',c',r,hr,HCR,hc',_,hcut⟩:=Sd Ai ci (sS q.length 4++(q++R)) (4+q.length) (by omega) hci;have hrR:r=R:=by rw[hr.o,hSd]
    subst hrR;have aap:=hcut ((4:Int)+(q.length:Int)) (by omega);have ahY:=Yb Ai (sS q.length 4++(q++r)).length ci 4 (4+q.length) (by omega) (by omega) hci 4 ((4:Int)+(q.length:Int)) rfl (by omega);rw[jW] at ahY;have HFR:oZ (Kd.F (Kd.int .u8) w (fun k=>k<w.heap.size) A' r.length r):=⟨Kd.Ro HF.o HCR.o⟩;have HFK:oZ (Kd.FK XM wr (fun k=>k<w.heap.size) q [.slice (Ai.map (·.add 4)) q.length q.length]):=⟨Kd.KT (aD _) (Kd.Cg (Kd.Ro HF.o (fun W hW=>by
     have h1:=Kd.Rh (c:=ci) (lo:=4) (hi:=4+q.length) hW (by omega) (by omega) hci;rw[aK (by omega),hSm] at h1;exact h1)) HB.o)⟩
    have hsum:IntKind.i64.wrap (4+(q.length:Int))=4+(q.length:Int):=by rw[bI];omega
    have hwq:IntKind.i64.wrap ((q.length:Nat):Int)=(q.length:Int):=by rw[bI];omega
    have HBS:=Yu (Kd.Nc HN.o);have hpos:((sS q.length 4++(q++r)).length:Int)>0:=by omega
    have h4S:4≤(sS q.length 4++(q++r)).length:=by omega
    generalize hnS:(sS q.length 4++(q++r)).length=nS at *;have hrl:r.length≤600000000:=by omega
    clear hr HCR hcut hSd hSm hS4 HF h4 hlS hnS
    go_wp2_with (first|(go_at_call 63;(with_reducible refine GET.o.mono ?_);rintro e w1 ⟨rfl,hb⟩;have HB1:=Yu (o9 HB.o hb);have HN1:=Yu (Kd.wm HN.o hb);have HF1:=Yu (Kd.Ag HFK.o (fun k hk hlt=>hb.block k hlt));clear hb)|((with_reducible refine qK (N:=25) rfl ?_);go_must (refine Kd.FJ XM (w0:=w) w.heap.size rfl (.tmp 19) (.tmp 24) 58 24 (.slice none 0 0) 24 rfl Tryz.underlying58 U3 rfl (by decide) (by decide) u3 (dn.map vJ) q _ (fun _=>True) (fun k=>k<w.heap.size) rfl rfl HF1.o ?h4 ?h5 HN1.o HB1.o HB1.o.size ?h6 ?_);(case h4=>exact fun k hk=>⟨dD,fun e=>by have:=HBS.o k e.symm;omega⟩);(case h5=>exact fun _ _=>dD);(case h6=>(rw[HDL.o];omega));intro v4 w4 hn4 hb4 hg4 aeR;have HN4:=Yu hn4;have HB4:=Yu hb4;clear hn4 hb4 hg4 aeR))
    go_roundg td.length
    case measure=>simp at hkx;omega
    case rel=>exact⟨dn++[p],td,A',c',⟨by rw[HPD.o];simp⟩,aD _,by rw[hR],by rw[hR];exact hc',by rw[hR];exact hrl,by rw[hR];exact HFR,⟨by rw[HMP.o];exact HN4.o⟩,HB4⟩
end Go.Proofs.Y.PA

/- Of the law ZHQDumpReads. -/
import Derived.Test.YtcgbgifbajdhpaaGreatDoorZH26
import Derived.Test.YtcgbgifbajdhpaaGreatDoorZH27
set_option linter.unusedVariables false
set_option linter.unusedSimpArgs false
set_option maxHeartbeats 8000000
set_option maxRecDepth 1000000
namespace Go
abbrev mK:=@List.filterMap_cons
abbrev nD:=@not_true_eq_false
abbrev nO:=@List.flatMap_map
end Go
namespace Go.Proofs.Y.PA
def Fj (x:ru):List ru:=(List.range ((x.f1.length+19) / 20)).map (fun j=>⟨x.f0,xQ x.f1 j⟩)
def qY (l:List ru):List ru:=l.flatMap Fj
noncomputable def uf (p:ru):List Int:=wW (vQ p.f0) p.f1
theorem Ah (l:List ru):vE l=(qY l).flatMap uf:=by
 rw[vE,qY,List.flatMap_assoc];congr 1
 funext x
 rw[Dt,yI,Fj,nO];rfl
end Go.Proofs.Y.PA
namespace Go.Proofs.Y.PA
open Go.RowKit Go.Proofs.Y.G Go.Proofs.YW.oO Go.Proofs.YW.pq Go.Proofs.YW.pz
def M7 (p:ru):Prop:=sI p.f0=true∧vC p.f1=true∧(∀ s∈p.f1,Bd s)∧1≤p.f1.length∧p.f1.length≤20
theorem Rh {l:List qG}{j:Nat}(h:j<(l.length+19) / 20):1≤(xQ l j).length∧(xQ l j).length≤20:=by
 rw[y5];unfold zH;omega
theorem Fh {l:List ru}(hz:Na l)(hc:∀ x∈l,sI x.f0=true∧vC x.f1=true):∀ p∈qY l,M7 p:=fun p hp=>by
 obtain⟨x,hx,hp⟩:=List.mem_flatMap.1 hp;obtain⟨j,hj,rfl⟩:=List.mem_map.1 hp;have h2:=Rh (List.mem_range.1 hj);exact⟨(hc x hx).1,zO (hc x hx).2 j,fun s hs=>(hz x hx).2.2.2 s (zS hs),h2.1,h2.2⟩
theorem QO {p:ru}(h:M7 p):1≤(uf p).length∧(uf p).length≤1014:=by
 refine⟨?_,Bt (Cc h.1) h.2.2.2.2 h.2.2.1 h.2.1⟩;rw[uf,wW,aT,pY];omega
def Dn (b:List Int):Nat:=qj.more 0 b
def DW (k n:Nat)(p:List Int):List Int:=[208,215,(k:Int)]++rD n 4++rD p.length 2++p
def xH (k n:Nat)(p:List Int):List Int:=DW k n p++rD (Dn (DW k n p)) 4
structure Fr where
 kind:Nat
 num:Nat
 pay:List Int
def vU (b:List Int):Option Fr:=
 if b.length<13 then none else
 if rd b 0≠208∨rd b 1≠215∨rd b 2<1∨3<rd b 2 then none else
 if 1000<wI 0 ((b.drop 7).take 2)∨b.length<13+wI 0 ((b.drop 7).take 2) then none else
 if Dn (b.take (9+wI 0 ((b.drop 7).take 2)))≠wI 0 ((b.drop (9+wI 0 ((b.drop 7).take 2))).take 4) then none else
 some ⟨(rd b 2).toNat,wI 0 ((b.drop 3).take 4),(b.take (9+wI 0 ((b.drop 7).take 2))).drop 9⟩
def wQ (f:Fr):Nat:=13+f.pay.length
def yP:Nat→List Int→List Fr
 | 0,_=>[]
 | k+1,b=>if b.length=0 then [] else match vU b with
   | none=>yP k (b.drop 1)
   | some f=>f::yP k (b.drop (wQ f))
def tZ (b:List Int):List Fr:=yP b.length b
theorem xK {b:List Int}{f:Fr}(h:vU b=some f):wQ f≤b.length∧f.pay.length≤1000∧f.pay.length=wI 0 ((b.drop 7).take 2)∧13≤b.length:=by
 unfold vU at h;split at h
 ·cases h
 ·split at h
  ·cases h
  ·split at h
   ·cases h
   ·split at h
    ·cases h
    ·injection h with h
     subst h;unfold wQ;simp only[aX,aW];omega
theorem Cg:∀ (k k':Nat) (b:List Int),b.length≤k→b.length≤k'→yP k b=yP k' b
 | 0,0,b,_,_=>rfl
 | 0,k'+1,b,h,_=>by rw[yP,yP,au (by omega)]
 | k+1,0,b,_,h=>by rw[yP,yP,au (by omega)]
 | k+1,k'+1,b,h,h'=>by
   rw[yP,yP];split
   ·rfl
   ·split
    ·exact Cg k k' _ (by rw[aX];omega) (by rw[aX];omega)
    ·rename_i f hf;have:=(xK hf).1;unfold wQ at this;rw[Cg k k' (b.drop (wQ f)) (by rw[aX];unfold wQ;omega) (by rw[aX];unfold wQ;omega)]
theorem Ei:tZ []=[]:=rfl
theorem E9 {b:List Int}(h:b.length≠0)(hb:vU b=none):tZ b=tZ (b.drop 1):=by
 unfold tZ;obtain⟨k,hk⟩:∃ k,b.length=k+1:=⟨b.length-1,by omega⟩;rw[hk,yP,av h,hb];exact Cg _ _ _ (by rw[aX];omega) (ay _)
theorem Ch {b:List Int}{f:Fr}(hb:vU b=some f):tZ b=f::tZ (b.drop (wQ f)):=by
 have hl:=xK hb;unfold tZ;obtain⟨k,hk⟩:∃ k,b.length=k+1:=⟨b.length-1,by omega⟩;rw[hk,yP,av (by omega),hb];simp only;rw[Cg k (b.drop (wQ f)).length _ (by rw[aX];unfold wQ;omega) (ay _)]
theorem Gu (k n:Nat)(p:List Int):(DW k n p).length=9+p.length:=by
 simp only[DW,aT,pY,bq,eF]
theorem wX (k n:Nat)(p:List Int):(xH k n p).length=13+p.length:=by
 rw[xH,aT,pY,Gu];omega
theorem Gs {b:List Int}(h:okB b=true):Dn b<4294967296:=qj.VL (by decide) (qV.1 h)
theorem KI {k n:Nat}{p:List Int}(hk:k<256)(hp:okB p=true):okB (DW k n p)=true:=by
 refine wY (wY (wY (qV.2 fun x hx=>?_) (wB _ _)) (wB _ _)) hp;simp only[iT,gY,lT] at hx;rcases hx with rfl | rfl | rfl<;>omega
theorem KH {k n:Nat}{p:List Int}(hk:k<256)(hp:okB p=true):okB (xH k n p)=true:=wY (KI hk hp) (wB _ _)
theorem xY {n i:Nat}(h:n<256 ^ i):wI 0 (rD n i)=n:=by
 rw[Pw,gH,dK,iy h]
theorem SL {k n:Nat}{p:List Int}(r:List Int)(hk1:1≤k)(hk3:k≤3)(hn:n<4294967296)(hp:okB p=true)(hl:p.length≤1000):vU (xH k n p++r)=some ⟨k,n,p⟩:=by
 have hb4:(rD n 4).length=4:=pY _ _;have hb2:(rD p.length 2).length=2:=pY _ _;have hc4:(rD (Dn (DW k n p)) 4).length=4:=pY _ _;have hH:=Gu k n p;have hB:=wX k n p;have hL:(xH k n p++r).length=13+p.length+r.length:=by rw[aT,hB]
 have h0:rd (xH k n p++r) 0=208:=by simp[xH,DW,rd]
 have h1:rd (xH k n p++r) 1=215:=by simp[xH,DW,rd]
 have h2:rd (xH k n p++r) 2=(k:Int):=by simp[xH,DW,rd]
 have h3:((xH k n p++r).drop 3).take 4=rD n 4:=by
  have e:xH k n p++r=[208,215,(k:Int)]++(rD n 4++(rD p.length 2++p++rD (Dn (DW k n p)) 4++r)):=by simp only[xH,DW,bC]
  rw[e];simp only[iC,cB,iq,gT];exact eO hb4
 have h7:((xH k n p++r).drop 7).take 2=rD p.length 2:=by
  have e:xH k n p++r=([208,215,(k:Int)]++rD n 4)++(rD p.length 2++(p++rD (Dn (DW k n p)) 4++r)):=by simp only[xH,DW,bC]
  rw[e,fU (by rw[aT,hb4];rfl),eO hb2]
 have hs:wI 0 (((xH k n p++r).drop 7).take 2)=p.length:=by rw[h7,xY (by omega)]
 have ht:(xH k n p++r).take (9+p.length)=DW k n p:=by rw[xH,bC,eO hH]
 have hd:((xH k n p++r).drop (9+p.length)).take 4=rD (Dn (DW k n p)) 4:=by rw[xH,bC,fU hH,eO hc4]
 have hc:wI 0 (rD (Dn (DW k n p)) 4)=Dn (DW k n p):=xY (by have:=Gs (KI (n:=n) (by omega:k<256) hp);omega);unfold vU;rw[av (by omega),h0,h1,h2,av (by omega),hs,av (by omega),ht,hd,hc,av (by simp),h3,xY (by omega),aG];congr 2
theorem H9 {k n:Nat}{p:List Int}(r:List Int)(hk1:1≤k)(hk3:k≤3)(hn:n<4294967296)(hp:okB p=true)(hl:p.length≤1000):tZ (xH k n p++r)=⟨k,n,p⟩::tZ r:=by
 rw[Ch (SL r hk1 hk3 hn hp hl)];congr 2;exact fU (by rw[wX,wQ])
structure Pt where
 num:Nat
 ser:ru
noncomputable def wh (p:List Int):Option ru:=
 if (rR p).2.2≠0 then none else
 if (wH (rR p).2.1).2≠0∨(wH (rR p).2.1).1.length=0∨20<(wH (rR p).2.1).1.length then none else
 some ⟨(rR p).1,(wH (rR p).2.1).1⟩
noncomputable def uO (f:Fr):Option Pt:=if f.kind=2 then (wh f.pay).map (fun s=>⟨f.num,s⟩) else none
def C8 (p:Pt):List Pt→List Pt
 | []=>[p]
 | q::l=>if p.num<q.num then p::q::l else q::C8 p l
def BN (l:List Pt):List Pt:=l.foldl (fun a p=>C8 p a) []
noncomputable def CP (b:List Int):List Pt:=(tZ b).filterMap uO
noncomputable def qL (b:List Int):List ru:=(BN (CP b)).map (·.ser)
noncomputable def uo (p:ru):List Int:=vQ p.f0++sU p.f1
noncomputable def qO:Nat→List ru→List Int
 | _,[]=>[]
 | i,p::l=>xH 2 (i+1) (uo p)++qO (i+1) l
noncomputable def uI (l:List ru):List Int:=
 xH 1 0 (rD (qY l).length 4)++(qO 0 (qY l)++xH 3 ((qY l).length+1) (rD (tot l) 8))
noncomputable def vP (l:List ru):List Int × Int:=if vG l=true then (uI l,0) else ([],1)
noncomputable def uq (b:List Int):List ru × Int:=
 if vP (joinL (qL b))=(b,0) then (joinL (qL b),0) else ([],5)
theorem zu {p:ru}(h:M7 p):okB (uo p)=true∧(uo p).length≤1000:=by
 have hu:=Cc h.1;have he:=Ec h.2.2.2.2 h.2.2.1 h.2.1;refine⟨wY (QN h.1) (Vz p.f1 (by have:=h.2.2.2.2;omega) h.2.2.1 h.2.1),?_⟩;have h1:=Bq h.1 p.f0.length (ay _);have h2:=(vB h.1).2.1;rw[Eb] at h1;rw[uo,aT];omega
theorem Og {p:ru}(h:M7 p):wh (uo p)=some p:=by
 have hd:=(KD p.f1 h.2.2.1 (by have:=h.2.2.2.2;omega) h.2.1).2.1;have h1:=h.2.2.2.1;have h2:=h.2.2.2.2;rw[wh,uo,QK p.f0 (sU p.f1) h.1];simp only[ne_eq,nD,if_false,hd,false_or];rw[av (by omega)]
def yu:Nat→List ru→List Pt
 | _,[]=>[]
 | i,p::l=>⟨i+1,p⟩::yu (i+1) l
theorem FU:∀ (l:List ru) (i:Nat) (r:List Int),(∀ p∈l,M7 p)→i+l.length<4294967296→(tZ (qO i l++r)).filterMap uO=yu i l++(tZ r).filterMap uO∧(tZ (qO i l++r)).length=l.length+(tZ r).length
 | [],i,r,_,_=>by simp[qO,yu]
 | p::l,i,r,h,hi=>by
   have hp:=h p cO;have ho:=zu hp;rw[bq] at hi;rw[qO,bC,H9 _ (by decide) (by decide) (by omega) ho.1 ho.2];obtain⟨h1,h2⟩:=FU l (i+1) r (fun q hq=>h q (dh _ hq)) (by omega);refine⟨?_,by rw[bq,h2,bq];omega⟩;rw[mK];simp only[uO,oL,Og hp,nV];rw[h1];rfl
theorem F8:∀ (l:List ru) (i:Nat),(yu i l).map (·.ser)=l
 | [],_=>rfl
 | p::l,i=>by rw[yu,bS,F8 l (i+1)]
theorem Ie (p:Pt):∀ l:List Pt,(∀ q∈l,q.num≤p.num)→C8 p l=l++[p]
 | [],_=>rfl
 | q::l,h=>by
   have h1:=h q cO;rw[C8,av (by omega),Ie p l (fun x hx=>h x (dh _ hx))];rfl
theorem NJ:∀ (l:List ru) (i:Nat) (a:List Pt),(∀ q∈a,q.num≤i)→(yu i l).foldl (fun a p=>C8 p a) a=a++yu i l
 | [],_,a,_=>by simp[yu]
 | p::l,i,a,h=>by
   rw[yu,jq,Ie _ _ (fun q hq=>by have:=h q hq;show q.num≤i+1;omega),NJ l (i+1) _ (fun q hq=>by
    rcases List.mem_append.1 hq with h1 | h1
    ·have:=h q h1;omega
    ·rw[fu] at h1;rw[h1];exact ay _)]
   simp
theorem FT {l:List ru}(h:∀ p∈qY l,M7 p)(hn:(qY l).length+1<4294967296):qL (uI l)=qY l∧(tZ (uI l)).length=(qY l).length+2:=by
 have hb:okB (rD (qY l).length 4)=true:=wB _ _;have h4:(rD (qY l).length 4).length=4:=pY _ _;have ht:okB (rD (tot l) 8)=true:=wB _ _;have h8:(rD (tot l) 8).length=8:=pY _ _;obtain⟨h1,h2⟩:=FU (qY l) 0 (xH 3 ((qY l).length+1) (rD (tot l) 8)) h (by omega);have h3:tZ (xH 3 ((qY l).length+1) (rD (tot l) 8))=[⟨3,(qY l).length+1,rD (tot l) 8⟩]:=by
  have:=H9 (k:=3) (n:=(qY l).length+1) [] (by decide) (by decide) (by omega) ht (by omega);rwa [dZ,Ei] at this
 have hw:tZ (uI l)=⟨1,0,rD (qY l).length 4⟩::tZ (qO 0 (qY l)++xH 3 ((qY l).length+1) (rD (tot l) 8)):=H9 _ (by decide) (by decide) (by decide) hb (by omega);have hp:CP (uI l)=yu 0 (qY l):=by
  rw[CP,hw,mK];simp only[uO,show ((1:Nat)=2)=False by decide,if_false];rw[h1,h3];simp[uO]
 refine⟨?_,by rw[hw,bq,h2,h3];simp⟩;rw[qL,hp,BN,NJ _ _ _ (fun q hq=>by cases hq),cB,F8]
theorem OM {l:List ru}(hc:vG l=true)(h:∀ p∈qY l,M7 p)(hj:joinL (qY l)=l)(hn:(qY l).length+1<4294967296):uq (uI l)=(l,0):=by
 rw[uq,(FT h hn).1,hj,vP,au hc,au rfl]
theorem zl:∀ (l:List ru) (i:Nat),(∀ p∈l,M7 p)→okB (qO i l)=true∧(qO i l).length≤1013*l.length
 | [],_,_=>⟨rfl,by simp[qO]⟩
 | p::l,i,h=>by
   have ho:=zu (h p cO);obtain⟨h1,h2⟩:=zl l (i+1) (fun q hq=>h q (dh _ hq));refine⟨wY (KH (by decide) ho.1) h1,?_⟩;rw[qO,aT,wX,bq];omega
theorem J8 {l:List ru}(h:∀ p∈qY l,M7 p):okB (uI l)=true∧(uI l).length≤1013*(qY l).length+38:=by
 obtain⟨h1,h2⟩:=zl (qY l) 0 h;refine⟨wY (KH (by decide) (wB _ _)) (wY h1 (KH (by decide) (wB _ _))),?_⟩;rw[uI,aT,aT,wX,wX,pY,pY];omega
theorem Cy (tmps:Array Value)(W:World)(r:Nat)(x0 x1:Value)(h:W.heap[r]? = some (.cells #[x0,x1] 51 (0,0)))(h2:tmps.getD 2 undef = .pointer (some ⟨r,0,none⟩)) :
 (results Tryz.f112 tmps).run Tryz.prog W = .ok (.tuple #[.agg #[x0,x1],tmps.getD 3 undef]) W:=by
 have c0:=(oQ h 0).trans rfl;have c1:=(oQ h 1).trans rfl;simp at h2;simp[results,Tryz.f112,go_sem,h2,c0,c1]
def yM (w:World)(f:Fr)(e:Ending)(w':World):Prop:=∃ (A1 A2:Option Addr) (n1 c1 n2 c2:Nat) (ok:Bool),e = .returned (.tuple #[.agg #[.slice A1 n1 c1,.slice A2 n2 c2],.bool ok])∧Below w.heap.size w w'∧(ok=false∧uO f=none∨ok=true∧∃ s:ru,uO f=some ⟨f.num,s⟩∧s.f1.length≤20∧s.f0.length≤8∧Kd.R xU 68 w' w.heap.size (fun _=>True) (.slice A1 n1 c1) s.f0∧Kd.R vX 70 w' w.heap.size (fun _=>True) (.slice A2 n2 c2) s.f1)
theorem yM.none_ {w W:World}{f:Fr}{A1 A2:Option Addr}{n1 c1 n2 c2:Nat}(h:uO f=none)(hb:Below w.heap.size w W):yM w f (.returned (.tuple #[.agg #[.slice A1 n1 c1,.slice A2 n2 c2],.bool false])) W:=
 ⟨A1,A2,n1,c1,n2,c2,false,rfl,hb,.inl ⟨rfl,h⟩⟩
theorem y9 {w W:World}{x0 x1:Value}(hb:Below w.heap.size w W):Below w.heap.size w ((W.setCell ⟨w.heap.size+1,0,none⟩ x0).setCell ⟨w.heap.size+1,1,none⟩ x1):=
 (hb.setCell (p:=⟨w.heap.size+1,0,none⟩) (lK _) _).setCell (p:=⟨w.heap.size+1,1,none⟩) (lK _) _
theorem wP {w:World}{g t:Nat}{o0 o1:Value}(h:w.heap[g]? = some (.cells #[o0,o1] t (0,0)))(x0 x1:Value):((w.setCell ⟨g,0,none⟩ x0).setCell ⟨g,1,none⟩ x1).heap[g]? = some (.cells #[x0,x1] t (0,0)):=
 qF (qF h 0 _ rfl) 1 _ rfl
theorem Kh {α:Type}{d:Kd α}{e g B:Nat}{W:World}{v x0 x1:Value}{xs:List α}(h:d.R e W B (fun _=>True) v xs)(hg:g<B):d.R e ((W.setCell ⟨g,0,none⟩ x0).setCell ⟨g,1,none⟩ x1) B (fun _=>True) v xs:=by
 have h1:=Kd.qR (ok':=fun k=>k≠g) (Kd.uK h) (fun k hk=>by have:=hk.2.1;omega);exact Kd.qR (Kd.sS (Kd.sS h1 (p:=⟨g,0,none⟩) (fun _ hk=>hk) _) (p:=⟨g,1,none⟩) (fun _ hk=>hk) _) (fun _ _=>bE)
theorem PN (b:List Int):(rR b).1.length≤8:=by
 cases b with
 | nil=>simp[rR]
 | cons a r=>
   simp only[rR];split
   ·simp
   ·split
    ·rename_i h;exact (vB h).2.1
    ·simp
theorem series.c (f:Fr)(A:Option Addr)(c m:Nat)(w:World)(hm:f.pay.length=m)(hr:Kd.C (Kd.int .u8) w A m f.pay)(hc:m≤c)(hok:okB f.pay=true)(hl:m≤1000)(hT:yN w) :
 Calls Tryz.prog 112 #[.agg #[.int .i64 f.kind,.int .i64 f.num,.slice A m c]] w (yM w f):=by
 have HX:=Y7 (by have h1:=qx (w.alloc (.cells #[.int .i64 f.kind,.int .i64 f.num,.slice A m c] 80 (0,0))) (.cells #[.slice none 0 0,.slice none 0 0] 51 (0,0));rw[bW] at h1;exact h1);have HX1:=Y7 (pK (qx w (.cells #[.int .i64 f.kind,.int .i64 f.num,.slice A m c] 80 (0,0))) (.cells #[.slice none 0 0,.slice none 0 0] 51 (0,0)));have HBA:=Y7 (oN (oN (aU w.heap.size w) (.cells #[.int .i64 f.kind,.int .i64 f.num,.slice A m c] 80 (0,0))) (.cells #[.slice none 0 0,.slice none 0 0] 51 (0,0)))
 by_cases hk:f.kind=2
 ·have hki:((f.kind:Int) != 2)=false:=by rw[hk];rfl
  have DL:oM (∀ W,Below w.heap.size w W→Calls Tryz.prog 132 #[.slice A m c] W (uJ W f.pay)):=⟨fun W hb=>rR.c A c m f.pay W hm (Kd.o9 hr hb) hc hok (by omega)⟩;obtain⟨rl,rr,re,hd⟩:∃ rl rr re,rR f.pay=(rl,rr,re):=⟨_,_,_,rfl⟩;have HD:=Y7 hd;have HRR:oM (okB rr=true∧rr.length≤2500∧rl.length≤8):=⟨by
   have h1:=Ho f.pay;have h2:=PN f.pay;rw[hd] at h1 h2;exact⟨tC hok h1.1,by have:=h1.2;simp only at this;omega,h2⟩⟩
  have HCB:oM (uO f=(if re≠0 then none else if (wH rr).2≠0∨(wH rr).1.length=0∨20<(wH rr).1.length then none else some ⟨rl,(wH rr).1⟩:Option ru).map (fun s=>⟨f.num,s⟩)):=⟨by rw[uO,au hk,wh,hd]⟩;clear hok hr hd hm hk
  by_cases hre:re=0
  ·subst hre;obtain⟨sl,se,hs⟩:∃ sl se,wH rr=(sl,se):=⟨_,_,rfl⟩;have HDE:oM (∀ A' c' W,Kd.C (Kd.int .u8) W A' rr.length rr→rr.length≤c'→Below w.heap.size w W→Calls Tryz.prog 133 #[.slice A' rr.length c'] W fun e w'=>∃ v:Value,e = .returned (.tuple #[v,.int .i64 se])∧Kd.R vX 70 w' W.heap.size (fun _=>True) v sl∧Below W.heap.size W w'):=⟨fun A' c' W h1 h2 hb=>Ae.qM A' c' rr W sl se rfl h1 h2 HRR.o.1 HRR.o.2.1 (hT.below hb) hs⟩;rw[hs] at HCB;simp only[ne_eq,nD,if_false] at HCB;clear hs hT
   by_cases hs0:se=0
   ·subst hs0;have e0:((0:Int)==0)=true:=by decide
    by_cases hl0:sl.length=0
    ·have HE:oM (uO f=none):=⟨by rw[HCB.o,au (.inr (.inl hl0))];rfl⟩;have ahw:¬ ((0:Int)<(sl.length:Int)):=by omega
     have amK:¬ (0<sl.length):=by omega
     clear HCB hl0
     go_enter Tryz.func112,Tryz.ntmps112
     go_wp2_with (first|(go_at_call 132;(with_reducible refine (DL.o _ HBA.o).mono ?_);rintro e w2 ⟨v1,v2,rfl,h1,h2,hb⟩;rw[HD.o] at h1 h2 ⊢;dsimp only at h1 h2 ⊢;obtain⟨A7,c7,rfl⟩:=Kd.pO h1;obtain⟨A8,c8,rfl⟩:=Kd.pO h2;have HV1:=Y7 h1;have HV2:=Y7 h2;have HB2:=Y7 (oP HBA.o hb);have HX2:=Y7 (o7 HX.o hb);have q0:=(oQ HX2.o 0).trans rfl;have q1:=(oQ HX2.o 1).trans rfl;have y0:=oW HX2.o 0;have y1:=oW HX2.o 1;clear hb h1 h2)|(go_at_call 133;(with_reducible refine (HDE.o A8 c8 _ (Kd.pE HV2.o).2.2 (Kd.pE HV2.o).2.1 HB2.o).mono ?_);rintro e w3 ⟨v3,rfl,h3,hb⟩;obtain⟨A9,c9,rfl⟩:=Kd.pO h3;have HV3:=Y7 h3;have adW:=Y7 (Kd.qo HV1.o hb);have HB3:=Y7 (oP HB2.o hb);have HX3:=Y7 (o7 HX2.o hb);clear q0 q1 y0 y1;have q0:=(oQ HX3.o 0).trans rfl;have q1:=(oQ HX3.o 1).trans rfl;have y0:=oW HX3.o 0;have y1:=oW HX3.o 1;clear hb h3))
     refine bf (Cy _ _ (w.heap.size+1) _ _ (wP HX3.o _ _) rfl) rfl ?_;exact yM.none_ HE.o (y9 HB3.o)
    ·have ahw:(0:Int)<(sl.length:Int):=by omega
     have amK:0<sl.length:=by omega
     by_cases hl2:20<sl.length
     ·have HE:oM (uO f=none):=⟨by rw[HCB.o,au (.inr (.inr hl2))];rfl⟩;have aiR:¬ ((sl.length:Int)≤20):=by omega
      clear HCB hl0 hl2
      go_enter Tryz.func112,Tryz.ntmps112
      go_wp2_with (first|(go_at_call 132;(with_reducible refine (DL.o _ HBA.o).mono ?_);rintro e w2 ⟨v1,v2,rfl,h1,h2,hb⟩;rw[HD.o] at h1 h2 ⊢;dsimp only at h1 h2 ⊢;obtain⟨A7,c7,rfl⟩:=Kd.pO h1;obtain⟨A8,c8,rfl⟩:=Kd.pO h2;have HV1:=Y7 h1;have HV2:=Y7 h2;have HB2:=Y7 (oP HBA.o hb);have HX2:=Y7 (o7 HX.o hb);have q0:=(oQ HX2.o 0).trans rfl;have q1:=(oQ HX2.o 1).trans rfl;have y0:=oW HX2.o 0;have y1:=oW HX2.o 1;clear hb h1 h2)|(go_at_call 133;(with_reducible refine (HDE.o A8 c8 _ (Kd.pE HV2.o).2.2 (Kd.pE HV2.o).2.1 HB2.o).mono ?_);rintro e w3 ⟨v3,rfl,h3,hb⟩;obtain⟨A9,c9,rfl⟩:=Kd.pO h3;have HV3:=Y7 h3;have adW:=Y7 (Kd.qo HV1.o hb);have HB3:=Y7 (oP HB2.o hb);have HX3:=Y7 (o7 HX2.o hb);clear q0 q1 y0 y1;have q0:=(oQ HX3.o 0).trans rfl;have q1:=(oQ HX3.o 1).trans rfl;have y0:=oW HX3.o 0;have y1:=oW HX3.o 1;clear hb h3))
      refine bf (Cy _ _ (w.heap.size+1) _ _ (wP HX3.o _ _) rfl) rfl ?_;show yM w f (.returned (.tuple #[.agg #[.slice A7 rl.length c7,.slice A9 sl.length c9],.bool (decide ((sl.length:Int)≤20))])) _;rw[aD (show ¬ ((sl.length:Int)≤20) by omega)];exact yM.none_ HE.o (y9 HB3.o)
     ·have HE:oM (uO f=some ⟨f.num,⟨rl,sl⟩⟩):=⟨by rw[HCB.o,av (by omega)];rfl⟩;have aiR:(sl.length:Int)≤20:=by omega
      have HL2:=Y7 hl2;clear HCB hl0 hl2
      go_enter Tryz.func112,Tryz.ntmps112
      go_wp2_with (first|(go_at_call 132;(with_reducible refine (DL.o _ HBA.o).mono ?_);rintro e w2 ⟨v1,v2,rfl,h1,h2,hb⟩;rw[HD.o] at h1 h2 ⊢;dsimp only at h1 h2 ⊢;obtain⟨A7,c7,rfl⟩:=Kd.pO h1;obtain⟨A8,c8,rfl⟩:=Kd.pO h2;have HV1:=Y7 h1;have HV2:=Y7 h2;have HB2:=Y7 (oP HBA.o hb);have HX2:=Y7 (o7 HX.o hb);have q0:=(oQ HX2.o 0).trans rfl;have q1:=(oQ HX2.o 1).trans rfl;have y0:=oW HX2.o 0;have y1:=oW HX2.o 1;clear hb h1 h2)|(go_at_call 133;(with_reducible refine (HDE.o A8 c8 _ (Kd.pE HV2.o).2.2 (Kd.pE HV2.o).2.1 HB2.o).mono ?_);rintro e w3 ⟨v3,rfl,h3,hb⟩;obtain⟨A9,c9,rfl⟩:=Kd.pO h3;have HV3:=Y7 h3;have adW:=Y7 (Kd.qo HV1.o hb);have HB3:=Y7 (oP HB2.o hb);have HX3:=Y7 (o7 HX2.o hb);clear q0 q1 y0 y1;have q0:=(oQ HX3.o 0).trans rfl;have q1:=(oQ HX3.o 1).trans rfl;have y0:=oW HX3.o 0;have y1:=oW HX3.o 1;clear hb h3))
      refine bf (Cy _ _ (w.heap.size+1) _ _ (wP HX3.o _ _) rfl) rfl ?_;have hsz1:w.heap.size+1+1≤w3.heap.size:=qQ HX3.o;have hsz2:w.heap.size+1+1≤w2.heap.size:=qQ HX2.o;refine⟨_,_,_,_,_,_,true,rfl,y9 HB3.o,.inr ⟨rfl,⟨rl,sl⟩,HE.o,Nat.le_of_not_lt HL2.o,HRR.o.2.2,?_,?_⟩⟩
      ·exact Kd.qW (Kh (adW.o) (by rw[bW,bW];omega)) (by rw[bW,bW];omega)
      ·exact Kd.qW (Kh (HV3.o) (by omega)) (by omega)
   ·have HE:oM (uO f=none):=⟨by rw[HCB.o,au (.inl hs0)];rfl⟩;have ZW:(se==0)=false:=beq_eq_false_iff_ne.2 hs0;clear HCB hs0
    go_enter Tryz.func112,Tryz.ntmps112
    go_wp2_with (first|(go_at_call 132;(with_reducible refine (DL.o _ HBA.o).mono ?_);rintro e w2 ⟨v1,v2,rfl,h1,h2,hb⟩;rw[HD.o] at h1 h2 ⊢;dsimp only at h1 h2 ⊢;obtain⟨A7,c7,rfl⟩:=Kd.pO h1;obtain⟨A8,c8,rfl⟩:=Kd.pO h2;have HV1:=Y7 h1;have HV2:=Y7 h2;have HB2:=Y7 (oP HBA.o hb);have HX2:=Y7 (o7 HX.o hb);have q0:=(oQ HX2.o 0).trans rfl;have q1:=(oQ HX2.o 1).trans rfl;have y0:=oW HX2.o 0;have y1:=oW HX2.o 1;clear hb h1 h2)|(go_at_call 133;(with_reducible refine (HDE.o A8 c8 _ (Kd.pE HV2.o).2.2 (Kd.pE HV2.o).2.1 HB2.o).mono ?_);rintro e w3 ⟨v3,rfl,h3,hb⟩;obtain⟨A9,c9,rfl⟩:=Kd.pO h3;have HV3:=Y7 h3;have adW:=Y7 (Kd.qo HV1.o hb);have HB3:=Y7 (oP HB2.o hb);have HX3:=Y7 (o7 HX2.o hb);clear q0 q1 y0 y1;have q0:=(oQ HX3.o 0).trans rfl;have q1:=(oQ HX3.o 1).trans rfl;have y0:=oW HX3.o 0;have y1:=oW HX3.o 1;clear hb h3))
    refine bf (Cy _ _ (w.heap.size+1) _ _ (wP HX3.o _ _) rfl) rfl ?_;exact yM.none_ HE.o (y9 HB3.o)
  ·have HE:oM (uO f=none):=⟨by rw[HCB.o,au hre];rfl⟩;have amL:(re != 0)=true:=by simpa using hre
   clear HCB hre
   go_enter Tryz.func112,Tryz.ntmps112
   go_wp2_with (first|(go_at_call 132;(with_reducible refine (DL.o _ HBA.o).mono ?_);rintro e w2 ⟨v1,v2,rfl,h1,h2,hb⟩;rw[HD.o] at h1 h2 ⊢;dsimp only at h1 h2 ⊢;obtain⟨A7,c7,rfl⟩:=Kd.pO h1;obtain⟨A8,c8,rfl⟩:=Kd.pO h2;have HV1:=Y7 h1;have HV2:=Y7 h2;have HB2:=Y7 (oP HBA.o hb);have HX2:=Y7 (o7 HX.o hb);have q0:=(oQ HX2.o 0).trans rfl;have q1:=(oQ HX2.o 1).trans rfl;have y0:=oW HX2.o 0;have y1:=oW HX2.o 1;clear hb h1 h2))
   refine bf (Cy _ _ (w.heap.size+1) _ _ (wP HX2.o _ _) rfl) rfl ?_;exact yM.none_ HE.o (y9 HB2.o)
 ·have hki:((f.kind:Int) != 2)=true:=by simp;omega
  have HE:oM (uO f=none):=⟨by rw[uO,av hk]⟩;clear hr hok hT hm hk
  go_enter Tryz.func112,Tryz.ntmps112
  go_wp2_with fail
  refine bf (Cy _ _ (w.heap.size+1) _ _ HX.o rfl) rfl ?_;exact yM.none_ HE.o HBA.o
end Go.Proofs.Y.PA
namespace Go.Proofs.Y.PA
open Go.RowKit Go.Lib Go.Sort
section
variable {α β:Type}
def xI (key:α→Int)(p:α):List α→List α
 | []=>[p]
 | q::l=>if key p<key q then p::q::l else q::xI key p l
def Ba (key:α→Int)(l:List α):List α:=l.foldl (fun a p=>xI key p a) []
def EM (key:α→Int)(v:Int)(l:List α):List α:=l.filter (fun x=>decide (key x=v))
def Up (key:α→Int)(l:List α):Prop:=l.Pairwise (fun x y=>key x≤key y)
theorem MO (key:α→Int)(p x:α):∀ l:List α,x∈xI key p l↔x=p∨x∈l
 | []=>by simp[xI]
 | q::l=>by
   rw[xI];split
   ·simp
   ·rw[iT,MO key p x l,iT];constructor
    ·rintro (h | h | h)<;>simp[h]
    ·rintro (h | h | h)<;>simp[h]
theorem PY (key:α→Int)(p:α):∀ l:List α,Up key l→Up key (xI key p l)
 | [],_=>lF _ _
 | q::l,h=>by
   obtain⟨h1,h2⟩:=List.pairwise_cons.1 h;rw[xI];split
   ·rename_i hp;refine List.pairwise_cons.2 ⟨fun x hx=>?_,h⟩;rcases List.mem_cons.1 hx with rfl | hx
    ·omega
    ·have:=h1 x hx;omega
   ·rename_i hp;refine List.pairwise_cons.2 ⟨fun x hx=>?_,PY key p l h2⟩;rcases (MO key p x l).1 hx with rfl | hx
    ·omega
    ·exact h1 x hx
theorem SG {key:α→Int}{v:Int}{l:List α}(h:∀ x∈l,key x≠v):EM key v l=[]:=by
 unfold EM;rw[jW];intro x hx
 simpa using h x hx
theorem PX (key:α→Int)(p:α)(v:Int):∀ l:List α,Up key l→EM key v (xI key p l)=EM key v l++(if key p=v then [p] else [])
 | [],_=>by
   by_cases h:key p=v<;>simp[xI,EM,h]
 | q::l,h=>by
   obtain⟨h1,h2⟩:=List.pairwise_cons.1 h;rw[xI];split
   ·rename_i hp
    by_cases hv:key p=v
    ·have hn:EM key v (q::l)=[]:=SG (fun x hx=>by
      rcases List.mem_cons.1 hx with rfl | hx
      ·omega
      ·have:=h1 x hx;omega)
     rw[hn,au hv];show (p::q::l).filter _=_;rw[gM,au (by simpa using hv)];show p::EM key v (q::l)=_;rw[hn];rfl
    ·rw[av hv,dZ];show (p::q::l).filter _=_;rw[gM,av (by simpa using hv)];rfl
   ·have ih:=PX key p v l h2;show (q::xI key p l).filter _=(q::l).filter _++_;rw[gM,gM];split
    ·rw[iC];exact eU (q::·) ih
    ·exact ih
theorem KG (key:α→Int):∀ (l a:List α),Up key a→Up key (l.foldl (fun a p=>xI key p a) a)∧∀ v,EM key v (l.foldl (fun a p=>xI key p a) a)=EM key v a++EM key v l
 | [],a,h=>⟨h,fun v=>by simp[EM]⟩
 | p::l,a,h=>by
   obtain⟨h1,h2⟩:=KG key l (xI key p a) (PY key p a h);refine⟨h1,fun v=>?_⟩;rw[jq,h2 v,PX key p v a h,bC];congr 1;show _=(p::l).filter _;rw[gM]
   by_cases hv:key p=v<;>simp[hv,EM]
theorem Qm (key:α→Int)(l:List α):Up key (Ba key l):=(KG key l [] List.Pairwise.nil).1
theorem Ql (key:α→Int)(l:List α)(v:Int):EM key v (Ba key l)=EM key v l:=by
 rw[Ba,(KG key l [] List.Pairwise.nil).2 v];rfl
theorem zo {key:α→Int}{x:α}{l:List α}:x∈EM key (key x) l↔x∈l:=by simp[EM]
theorem U9 (key:α→Int):∀ (a b:List α),Up key a→Up key b→(∀ v,EM key v a=EM key v b)→a=b
 | [],[],_,_,_=>rfl
 | [],y::b,_,_,h=>by
   have h1:y∈EM key (key y) (y::b):=zo.2 cO;rw[← h (key y)] at h1;simp[EM] at h1
 | x::a,[],_,_,h=>by
   have h1:x∈EM key (key x) (x::a):=zo.2 cO;rw[h (key x)] at h1;simp[EM] at h1
 | x::a,y::b,ha,hb,h=>by
   obtain⟨ha1,ha2⟩:=List.pairwise_cons.1 ha;obtain⟨hb1,hb2⟩:=List.pairwise_cons.1 hb;have hx:x∈y::b:=zo.1 (by rw[← h (key x)];exact zo.2 cO);have hy:y∈x::a:=zo.1 (by rw[h (key y)];exact zo.2 cO);have h1:key y≤key x:=by
    rcases List.mem_cons.1 hx with rfl | hx
    ·exact gV _
    ·exact hb1 x hx
   have h2:key x≤key y:=by
    rcases List.mem_cons.1 hy with rfl | hy
    ·exact gV _
    ·exact ha1 y hy
   have hk:key y=key x:=by omega
   have h3:=h (key x);have e1:EM key (key x) (x::a)=x::EM key (key x) a:=by
    show (x::a).filter _=_;rw[gM,au (by simp)];rfl
   have e2:EM key (key x) (y::b)=y::EM key (key x) b:=by
    show (y::b).filter _=_;rw[gM,au (by simp[hk])];rfl
   rw[e1,e2] at h3;injection h3 with h4 h5
   subst h4;rw[U9 key a b ha2 hb2 (fun v=>by
    by_cases hv:key x=v
    ·subst hv;exact h5
    ·have h6:=h v;have e3:∀ c:List α,EM key v (x::c)=EM key v c:=fun c=>by
      show (x::c).filter _=_;rw[gM,av (by simpa using hv)];rfl
     rwa [e3,e3] at h6)]
theorem MN (f:β→α)(key:α→Int)(p:β):∀ l:List β,(xI (fun x=>key (f x)) p l).map f=xI key (f p) (l.map f)
 | []=>rfl
 | q::l=>by
   rw[xI,bS,xI];split
   ·rfl
   ·rw[bS,MN f key p l]
theorem IJ (f:β→α)(key:α→Int)(l:List β):(Ba (fun x=>key (f x)) l).map f=Ba key (l.map f):=by
 have:∀ (l a:List β),(l.foldl (fun a p=>xI (fun x=>key (f x)) p a) a).map f=(l.map f).foldl (fun a p=>xI key p a) (a.map f):=by
  intro l
  induction l with
  | nil=>intro a;rfl
  | cons p l ih=>intro a;rw[jq,ih,MN,bS,jq]
 exact this l []
theorem UZ (key:α→Int)(l:List α)(x:α):x∈Ba key l↔x∈l:=by
 rw[← zo (key:=key),Ql,zo]
theorem ML (key:α→Int)(p:α):∀ l:List α,(xI key p l).length=l.length+1
 | []=>rfl
 | q::l=>by
   rw[xI];split
   ·rfl
   ·rw[bq,ML key p l,bq]
theorem EC (key:α→Int)(l:List α):(Ba key l).length=l.length:=by
 have:∀ (l a:List α),(l.foldl (fun a p=>xI key p a) a).length=a.length+l.length:=by
  intro l
  induction l with
  | nil=>intro a;rfl
  | cons p l ih=>intro a;rw[jq,ih,ML,bq];omega
 have h:=this l [];rw[eF,dK] at h;exact h
end
theorem MQ (p:Pt):∀ l:List Pt,C8 p l=xI (fun q=>(q.num:Int)) p l
 | []=>rfl
 | q::l=>by
   rw[C8,xI,MQ p l]
   by_cases h:p.num<q.num
   ·rw[au h,au (by omega)]
   ·rw[av h,av (by omega)]
theorem zU (l:List Pt):BN l=Ba (fun q=>(q.num:Int)) l:=by
 unfold BN Ba;congr 1
 funext a p
 exact MQ p a
end Go.Proofs.Y.PA
namespace Go.Proofs.Y.PA
open Go.RowKit Go.Proofs.Y.G Go.Proofs.YW.oO Go.Proofs.YW.pq Go.Proofs.YW.pz
def Vg:Kd (List Int):=Kd.slice 5 (Kd.int .u8)
theorem PW:(Tryz.prog.info? 24).map (fun i=>(i.zero,i.size,i.bytes))=some (some (.slice none 0 0),1,24):=by kernel_rfl
theorem YO (A:Option Addr)(n c lo hi:Nat)(h1:lo<hi)(h2:hi≤n)(hc:n≤c) :
 ∀ i j:Int,i=(lo:Int)→j=(hi:Int)→∀ W:World,(Instr.slice 24 (.slice A n c) (some (.int .i64 i)) (some (.int .i64 j)) (some (.int .i64 j))).run Tryz.prog W = .ok (.slice (A.map (·.add lo)) (hi-lo) (hi-lo)) W:=by
 intro i j hi' hj' W;subst hi' hj';obtain⟨i0,hi0,hsz⟩:=Ic;have hu:=Tryz.underlying24;have hel:Tryz.prog.elem 24=5:=by simp[Program.elem,hu]
 have hu':Tryz.prog.underlying 24=some (.slice (Tryz.prog.elem 24)):=by rw[hel];exact hu
 rw[run_slice_lhm W 24 A n c hu' .i64 .i64 .i64 (lo:Int) (hi:Int) (hi:Int) (by omega) (by omega) (by omega) (by omega),hel];simp only[sizeOf,typeInfo,iL,hi0,sliced,Result.andThen,hsz,aG];cases A<;>simp[go_sem,hi0,hsz,oI h1]
theorem IE (p:ru)(h:M7 p)(R:List Int):uf p++R=rD (uo p).length 4++(uo p++R)∧(uo p).length≤1000∧0<(uo p).length:=by
 refine⟨?_,(zu h).2,?_⟩
 ·rw[uf,wW,uo,aT];simp only[bC]
 ·rw[uo,aT,vQ];simp only[bq];omega
theorem split.c (A:Option Addr)(c n:Nat)(P:List ru)(w:World)(hok:∀ p∈P,M7 p)(hn:(P.flatMap uf).length=n)(hr:Kd.C (Kd.int .u8) w A n (P.flatMap uf))(hc:n≤c)(hlen:n≤600000000)(hP:P.length≤1000000) :
 Calls Tryz.prog 29 #[.slice A n c] w fun e w'=>∃ v:Value,e = .returned v∧Kd.N Vg 24 w' w.heap.size (fun _=>True) v (P.map uo)∧Below w.heap.size w w':=by
 subst hn;have HOK:=Y7 hok;have HF:=Y7 (Kd.Y0 (Kd.MJ .u8) hr);clear hok hr
 go_enter Tryz.func29,Tryz.ntmps29
 go_wp2
 go_loopg [0,3] P.length (fun kx s0 s3 wr=>∃ (dn td:List ru) (Ai:Option Addr) (ci:Nat),oM (P=dn++td)∧td.length≤kx∧s0 = .slice Ai (td.flatMap uf).length ci∧(td.flatMap uf).length≤ci∧(td.flatMap uf).length≤600000000∧oM (Kd.F (Kd.int .u8) w (fun k=>k<w.heap.size) Ai (td.flatMap uf).length (td.flatMap uf))∧oM (Kd.N Vg 24 wr w.heap.size (fun _=>True) s3 (dn.map uo))∧oM (Below w.heap.size w wr))
 case atStart=>exact⟨[],P,A,c,⟨rfl⟩,ay _,rfl,hc,hlen,HF,⟨Kd.FJ _ _ _ _ _⟩,⟨aU _ _⟩⟩
 case round=>
  clear hc hlen HF;obtain⟨dn,td,Ai,ci,HPD,hkx,rfl,hci,hlen,HF,HN,HB⟩:=hrel;cases td with
  | nil=>
    have HN':oM (Kd.N Vg 24 wr w.heap.size (fun _=>True) u3 (P.map uo)):=⟨by rw[HPD.o,dZ];exact HN.o⟩;obtain⟨Av,cv,rfl⟩:=Kd.zW HN'.o;go_wp2;go_ret;exact⟨_,rfl,HN'.o,HB.o⟩
  | cons p td=>
    have hp:M7 p:=HOK.o p (by rw[HPD.o];simp);obtain⟨hS,hm1,hm0⟩:=IE p hp (td.flatMap uf);rw[show (p::td).flatMap uf=rD (uo p).length 4++(uo p++td.flatMap uf) from hS] at HF hci hlen ⊢;have hdl:dn.length+1≤1000000:=by have:=hP;rw[HPD.o] at this;simp at this;omega
    have HQ:oM (okB (uo p)=true):=⟨(zu hp).1⟩;have HMP:oM ((dn++[p]).map uo=dn.map uo++[uo p]):=⟨by simp⟩;have HDL:oM ((dn.map uo).length=dn.length):=⟨bN ..⟩;clear hS hp;generalize hR:td.flatMap uf=R at *;generalize uo p=q at *;have h4:(rD q.length 4).length=4:=pY _ _;have hlS:(rD q.length 4++(q++R)).length=4+q.length+R.length:=by rw[aT,aT,h4];omega
    have hS4:(rD q.length 4++(q++R)).take 4=rD q.length 4:=eO h4;have hSm:((rD q.length 4++(q++R)).take (4+q.length)).drop 4=q:=by
     rw[← bC,eO (by rw[aT,h4]),fU h4]
    have hSd:(rD q.length 4++(q++R)).drop (4+q.length)=R:=by
     rw[← bC,fU (by rw[aT,h4])]
    have GET:oM (Calls Tryz.prog 63 #[.slice Ai 4 ci] wr fun e w'=>e = .returned (.tuple #[.int .u64 ((q.length:Nat):Int),.bool true])∧Below wr.heap.size wr w'):=⟨by
     have hC:=Kd.o9 (Kd.Po HF.o) HB.o;have h1:=vI.c Ai ci (rD q.length 4) ((q.length:Nat):Int) true wr (by have h2:=Kd.wZ hC (m:=4) (by omega);rwa [hS4] at h2) (by omega) (by rw[vI.f,au (wB _ _),au (by omega),xY (by omega)]);rw[h4] at h1;exact h1.mono fun e w' ⟨he,hd⟩=>⟨he,hd.below⟩⟩
    obtain⟨A',c',r,hr,HCR,hc',_,hcut⟩:=D8 Ai ci (rD q.length 4++(q++R)) (4+q.length) (by omega) hci;have hrR:r=R:=by rw[hr.o,hSd]
    subst hrR;have aaO:=hcut ((4:Int)+(q.length:Int)) (by omega);have agJ:=YO Ai (rD q.length 4++(q++r)).length ci 4 (4+q.length) (by omega) (by omega) hci 4 ((4:Int)+(q.length:Int)) rfl (by omega);rw[jJ] at agJ;have HFR:oM (Kd.F (Kd.int .u8) w (fun k=>k<w.heap.size) A' r.length r):=⟨Kd.GR HF.o HCR.o⟩;have HFK:oM (Kd.FK Vg wr (fun k=>k<w.heap.size) q [.slice (Ai.map (·.add 4)) q.length q.length]):=⟨Kd.FH (ay _) (Kd.xJ (Kd.GR HF.o (fun W hW=>by
     have h1:=Kd.Pm (c:=ci) (lo:=4) (hi:=4+q.length) hW (by omega) (by omega) hci;rw[av (by omega),hSm] at h1;exact h1)) HB.o)⟩
    have hsum:IntKind.i64.wrap (4+(q.length:Int))=4+(q.length:Int):=by rw[bD];omega
    have hwq:IntKind.i64.wrap ((q.length:Nat):Int)=(q.length:Int):=by rw[bD];omega
    have HBS:=Y7 (Kd.Df HN.o);have hpos:((rD q.length 4++(q++r)).length:Int)>0:=by omega
    have h4S:4≤(rD q.length 4++(q++r)).length:=by omega
    generalize hnS:(rD q.length 4++(q++r)).length=nS at *;have hrl:r.length≤600000000:=by omega
    clear hr HCR hcut hSd hSm hS4 HF h4 hlS hnS
    go_wp2_with (first|(go_at_call 63;(with_reducible refine GET.o.mono ?_);rintro e w1 ⟨rfl,hb⟩;have HB1:=Y7 (oP HB.o hb);have HN1:=Y7 (Kd.wV HN.o hb);have HF1:=Y7 (Kd.BR HFK.o (fun k hk hlt=>hb.block k hlt));clear hb)|((with_reducible refine qm (N:=25) rfl ?_);go_must (refine Kd.Bg Vg (w0:=w) w.heap.size rfl (.tmp 19) (.tmp 24) 58 24 (.slice none 0 0) 24 rfl Tryz.underlying58 PW rfl (by decide) (by decide) u3 (dn.map uo) q _ (fun _=>True) (fun k=>k<w.heap.size) rfl rfl HF1.o ?h4 ?h5 HN1.o HB1.o HB1.o.size ?h6 ?_);(case h4=>exact fun k hk=>⟨bE,fun e=>by have:=HBS.o k e.symm;omega⟩);(case h5=>exact fun _ _=>bE);(case h6=>(rw[HDL.o];omega));intro v4 w4 hn4 hb4 hg4 adX;have HN4:=Y7 hn4;have HB4:=Y7 hb4;clear hn4 hb4 hg4 adX))
    go_roundg td.length
    case measure=>simp at hkx;omega
    case rel=>exact⟨dn++[p],td,A',c',⟨by rw[HPD.o];simp⟩,ay _,by rw[hR],by rw[hR];exact hc',by rw[hR];exact hrl,by rw[hR];exact HFR,⟨by rw[HMP.o];exact HN4.o⟩,HB4⟩
theorem Vw (A:Option Addr)(n c hi:Nat)(h2:hi≤n)(hc:n≤c) :
 ∀ j:Int,j=(hi:Int)→∀ W:World,(Instr.slice 24 (.slice A n c) none (some (.int .i64 j)) none).run Tryz.prog W = .ok (.slice A hi c) W:=by
 intro j hj W;subst hj;obtain⟨i0,hi0,hsz⟩:=Ic;have h1:=Dp (P:=Tryz.prog) 24 5 .i64 Tryz.underlying24 hi0 A n c (hi:Int) (by omega) (by omega) hc W;rwa [aG] at h1
theorem PS:∀ (td:List ru),(∀ p∈td,M7 p)→okB (td.flatMap uf)=true
 | [],_=>rfl
 | p::td,h=>by
   rw[nC,(IE p (h p cO) (td.flatMap uf)).1];exact wY (wB _ _) (wY (zu (h p cO)).1 (PS td (fun q hq=>h q (dh _ hq))))
theorem VW.c (A:Option Addr)(c n:Nat)(P:List ru)(w:World)(hok:∀ p∈P,M7 p)(hn:(P.flatMap uf).length=n)(hr:Kd.C (Kd.int .u8) w A n (P.flatMap uf))(hc:n≤c)(hlen:n≤600000000)(hP:P.length≤1000000) :
 Calls Tryz.prog 32 #[.slice A n c] w fun e w'=>∃ v:Value,e = .returned v∧Kd.N Vg 24 w' w.heap.size (fun _=>True) v (P.map uo)∧Below w.heap.size w w':=by
 subst hn;have HOK:=Y7 hok;have HF:=Y7 (Kd.Y0 (Kd.MJ .u8) hr);clear hok hr
 go_enter Tryz.func32,Tryz.ntmps32
 go_wp2
 go_loopg [0,3] P.length (fun kx s0 s3 wr=>∃ (dn td:List ru) (Ai:Option Addr) (ci:Nat),oM (P=dn++td)∧td.length≤kx∧s0 = .slice Ai (td.flatMap uf).length ci∧(td.flatMap uf).length≤ci∧(td.flatMap uf).length≤600000000∧oM (Kd.F (Kd.int .u8) w (fun k=>k<w.heap.size) Ai (td.flatMap uf).length (td.flatMap uf))∧oM (Kd.N Vg 24 wr w.heap.size (fun _=>True) s3 (dn.map uo))∧oM (Below w.heap.size w wr))
 case atStart=>exact⟨[],P,A,c,⟨rfl⟩,ay _,rfl,hc,hlen,HF,⟨Kd.FJ _ _ _ _ _⟩,⟨aU _ _⟩⟩
 case round=>
  clear hc hlen HF;obtain⟨dn,td,Ai,ci,HPD,hkx,rfl,hci,hlen,HF,HN,HB⟩:=hrel;cases td with
  | nil=>
    have HN':oM (Kd.N Vg 24 wr w.heap.size (fun _=>True) u3 (P.map uo)):=⟨by rw[HPD.o,dZ];exact HN.o⟩;obtain⟨Av,cv,rfl⟩:=Kd.zW HN'.o;go_wp2;go_ret;exact⟨_,rfl,HN'.o,HB.o⟩
  | cons p td=>
    have hp:M7 p:=HOK.o p (by rw[HPD.o];simp);obtain⟨hS,hm1,hm0⟩:=IE p hp (td.flatMap uf);rw[show (p::td).flatMap uf=rD (uo p).length 4++(uo p++td.flatMap uf) from hS] at HF hci hlen ⊢;have hdl:dn.length+1≤1000000:=by have:=hP;rw[HPD.o] at this;simp at this;omega
    have HQ:oM (okB (uo p)=true):=⟨(zu hp).1⟩;have adA:oM (okB (rD (uo p).length 4++(uo p++td.flatMap uf))=true):=⟨wY (wB _ _) (wY HQ.o (PS td (fun q hq=>HOK.o q (by rw[HPD.o];exact og _ (dh _ hq)))))⟩;have HMP:oM ((dn++[p]).map uo=dn.map uo++[uo p]):=⟨by simp⟩;have HDL:oM ((dn.map uo).length=dn.length):=⟨bN ..⟩;clear hS hp;generalize hR:td.flatMap uf=R at *;generalize uo p=q at *;have h4:(rD q.length 4).length=4:=pY _ _;have hlS:(rD q.length 4++(q++R)).length=4+q.length+R.length:=by rw[aT,aT,h4];omega
    have hS4:(rD q.length 4++(q++R)).take 4=rD q.length 4:=eO h4;have hSm:((rD q.length 4++(q++R)).take (4+q.length)).drop 4=q:=by
     rw[← bC,eO (by rw[aT,h4]),fU h4]
    have hSd:(rD q.length 4++(q++R)).drop (4+q.length)=R:=by
     rw[← bC,fU (by rw[aT,h4])]
    obtain⟨A4,c4,r4,hr4,akm,hc4,_,afF⟩:=D8 Ai ci (rD q.length 4++(q++R)) 4 (by omega) hci;have amM:r4=q++R:=by rw[hr4.o,fU h4]
    subst amM;have amN:=afF (4:Int) rfl;have hsg:NC (rD q.length 4++(q++R))=q.length:=by rw[NC,hS4,xY (by omega)]
    have hqR:(q++R).length=q.length+R.length:=aT ..;have GET:oM (Calls Tryz.prog 65 #[.slice Ai (rD q.length 4++(q++R)).length ci,.int .i64 4] wr fun e w'=>e = .returned (.tuple #[.int .i64 ((q.length:Nat):Int),.slice A4 (q++R).length c4,.bool true])∧Below wr.heap.size wr w'):=⟨by
     have h1:=XG.c Ai ci _ (rD q.length 4++(q++R)) wr rfl (Kd.o9 (Kd.Po HF.o) HB.o) hci adA.o (by omega) A4 c4 (q++R).length amN;rwa [hsg] at h1⟩
    obtain⟨A',c',r,hr,HCR,hc',_,hcut⟩:=D8 A4 c4 (q++R) q.length (by omega) hc4;have hrR:r=R:=by rw[hr.o,fU rfl]
    subst hrR;have aaO:=hcut (q.length:Int) rfl;have agJ:=Vw A4 (q++r).length c4 q.length (by omega) hc4 (q.length:Int) rfl;have HF4:=Y7 (Kd.GR HF.o akm.o);have HFR:oM (Kd.F (Kd.int .u8) w (fun k=>k<w.heap.size) A' r.length r):=⟨Kd.GR HF4.o HCR.o⟩;have hqc:q.length≤c4:=by omega
    have HFK:oM (Kd.FK Vg wr (fun k=>k<w.heap.size) q [.slice A4 q.length c4]):=⟨Kd.FH hqc (Kd.xJ (Kd.GR HF4.o (fun W hW=>by
     have h1:=Kd.wZ hW (m:=q.length) (by omega);rw[eO rfl] at h1;exact h1)) HB.o)⟩
    have aoN:q.length≤(q++r).length:=by omega
    clear hqR HF4 HCR hr;generalize (q++r).length=m2 at *;have hsum:IntKind.i64.wrap (4+(q.length:Int))=4+(q.length:Int):=by rw[bD];omega
    have hwq:IntKind.i64.wrap ((q.length:Nat):Int)=(q.length:Int):=by rw[bD];omega
    have HBS:=Y7 (Kd.Df HN.o);have hpos:((rD q.length 4++(q++r)).length:Int)>0:=by omega
    have h4S:4≤(rD q.length 4++(q++r)).length:=by omega
    generalize hnS:(rD q.length 4++(q++r)).length=nS at *;have hrl:r.length≤600000000:=by omega
    clear hr4 akm afF hcut hSd hSm hS4 HF h4 hlS hnS
    go_wp2_with (first|(go_at_call 65;(with_reducible refine GET.o.mono ?_);rintro e w1 ⟨rfl,hb⟩;have HB1:=Y7 (oP HB.o hb);have HN1:=Y7 (Kd.wV HN.o hb);have HF1:=Y7 (Kd.BR HFK.o (fun k hk hlt=>hb.block k hlt));clear hb)|((with_reducible refine qm (N:=21) rfl ?_);go_must (refine Kd.Bg Vg (w0:=w) w.heap.size rfl (.tmp 16) (.tmp 20) 58 24 (.slice none 0 0) 24 rfl Tryz.underlying58 PW rfl (by decide) (by decide) u3 (dn.map uo) q _ (fun _=>True) (fun k=>k<w.heap.size) rfl rfl HF1.o ?h4 ?h5 HN1.o HB1.o HB1.o.size ?h6 ?_);(case h4=>exact fun k hk=>⟨bE,fun e=>by have:=HBS.o k e.symm;omega⟩);(case h5=>exact fun _ _=>bE);(case h6=>(rw[HDL.o];omega));intro v4 w4 hn4 hb4 hg4 adX;have HN4:=Y7 hn4;have HB4:=Y7 hb4;clear hn4 hb4 hg4 adX))
    go_roundg td.length
    case measure=>simp at hkx;omega
    case rel=>exact⟨dn++[p],td,A',c',⟨by rw[HPD.o];simp⟩,ay _,by rw[hR],by rw[hR];exact hc',by rw[hR];exact hrl,by rw[hR];exact HFR,⟨by rw[HMP.o];exact HN4.o⟩,HB4⟩
theorem JA:∀ (l:List qG) (q:Nat) (s:qG),yB (l.set q s)=((yB l).set (q*2) (.int .i64 s.f0)).set (q*2+1) (.int .u64 s.f1)
 | [],q,s=>by simp[yB]
 | x::l,0,s=>rfl
 | x::l,q+1,s=>by
   rw[aj,za,za,JA l q s,show (q+1)*2=q*2+1+1 from by omega,aj,aj,aj,aj]
theorem XO {w:World}{base g cap n:Nat}{l:List qG}(h:RS w base (.slice (some ⟨g,0,none⟩) n cap) l)(hn:l.length=n)(h0:0<n)(q:Nat)(s:qG) :
 RS ((w.setCell ⟨g,q*2,none⟩ (.int .i64 s.f0)).setCell ⟨g,q*2+1,none⟩ (.int .u64 s.f1)) base (.slice (some ⟨g,0,none⟩) n cap) (l.set q s):=by
 obtain⟨hl,ho⟩:=UM h;rcases ho with ⟨_,h1⟩ | ⟨g',cap',cur,he,hb,hh,h2,h3,h4,h5⟩
 ·omega
 ·simp only[j5,bF,oH,kZ] at he;obtain⟨rfl,hnn,rfl⟩:=he;refine OE ⟨by rw[Ce],.inr ⟨g,cap,(cur.setIfInBounds (q*2) (.int .i64 s.f0)).setIfInBounds (q*2+1) (.int .u64 s.f1),by rw[dY,hn],hb,Ac (Ac hh _ _) _ _,by rw[dY];exact h2,h3,by simp[h4],?_⟩⟩;rw[jr,jr,mY,mY,dY,h5,JA]
theorem xq (w:World)(o:Obj):(w.alloc o).heap.size=w.heap.size+1:=Array.size_push _
theorem su {a b n c:Nat}(h:a≠b):some a≠(Value.slice (some ⟨b,0,none⟩) n c).ownBlock:=by
 intro e;simp only[Value.ownBlock,nV,bF] at e;exact h e
theorem yt {W:World}{v v':Value}{b:Nat}(hb:b<W.heap.size)(hne:some b≠v.ownBlock)(hat:v'.ownBlock=v.ownBlock∨∃ k,v'.ownBlock=some k∧W.heap.size≤k):some b≠v'.ownBlock:=by
 rcases hat with h | ⟨k,h,hk⟩
 ·rwa [h]
 ·rw[h];intro e;injection e with e
  omega
theorem YQ.c (A:Option Addr)(c n:Nat)(l:List qG)(s:qG)(w:World)(hn:l.length=n)(hr:Kd.C vX w A n l)(hc:n≤c)(hlen:n≤1000000) :
 Calls Tryz.prog 52 #[.slice A n c,.agg #[.int .i64 s.f0,.int .u64 s.f1]] w fun e w'=>∃ v:Value,e = .returned v∧RS w' w.heap.size v (yF l s)∧Below w.heap.size w w':=by
 subst hn;have mixed:Tryz.prog.follows .mixedOrders=true:=by kernel_rfl
 have HR:=Y7 hr;clear hr
 go_enter Tryz.func52,Tryz.ntmps52
 go_upto_region 1 with (fail)
 have HX0:=Y7 (qx w (.cells #[.int .i64 s.f0,.int .u64 s.f1] 70 (0,0)));have HB0:=Y7 (oN (aU w.heap.size w) (.cells #[.int .i64 s.f0,.int .u64 s.f1] 70 (0,0)));generalize w.alloc (.cells #[.int .i64 s.f0,.int .u64 s.f1] 70 (0,0))=W0 at HX0 HB0 ⊢;obtain⟨bx,hbx⟩:∃ bx,bx=w.heap.size:=⟨_,rfl⟩;have HBX:=Y7 hbx;rw[← hbx] at HX0 ⊢;clear hbx
 go_upto_block 0 with (fail)
 go_cut [5] (fun v wx=>v = .int .i64 (yR l s.f0 l.length:Nat)∧oM (Below W0.heap.size W0 wx))
 case first=>
  go_wp2_with fail
  go_loopg [5] l.length (fun kx s5 wr=>∃ (q:Nat),s5 = .int .i64 q∧q≤l.length∧q≤kx∧oM (yR l s.f0 q=yR l s.f0 l.length)∧oM (Below W0.heap.size W0 wr))
  case atStart=>exact⟨l.length,rfl,ay _,ay _,⟨rfl⟩,⟨aU _ _⟩⟩
  case round=>
   obtain⟨q,rfl,hq,hkx,HQ,HB⟩:=hrel;have HX:=Y7 (o7 HX0.o HB.o);have y0:=oQ HX.o 0;have HBw:=Y7 (oP HB0.o HB.o);rcases dW q with rfl | hq0
   ·have HP:oM (yR l s.f0 l.length=0):=⟨by rw[← HQ.o];rfl⟩;have g2:decide ((0:Int)>0)=false:=rfl
    go_wp2_with fail
    go_quiet (fail)
    go_wp2_with fail
    go_meet
    exact⟨by rw[HP.o],⟨oU HB.o _⟩⟩
   ·obtain⟨p,rfl⟩:∃ p,q=p+1:=⟨q-1,by omega⟩;obtain⟨ad,rfl,x0,_⟩:=tY (Kd.o9 HR.o HBw.o) (p:Int) (by omega) (by omega);rw[aG] at x0;have g2:decide ((p:Int)+1>0)=true:=aC (by omega);have e2:(p:Int)+1-1=(p:Int):=by omega
    have r2:IntKind.i64.wrap ((p:Int)+1-1)=(p:Int):=by rw[bD];omega
    have r3:IntKind.i64.wrap (p:Int)=(p:Int):=by rw[bD];omega
    have bp:(p:Int)<(l.length:Int):=by omega
    have HPS:oM (yR l s.f0 (p+1)=if s.f0≤(pI l (p:Int)).f0 then yR l s.f0 p else p+1):=⟨rfl⟩;generalize (pI l (p:Int)).f0=t at x0 HPS
    by_cases hge:s.f0≤t
    ·have g3:decide (s.f0≤t)=true:=aC hge;have g4:decide (t≥s.f0)=true:=aC hge;have HPN:oM (yR l s.f0 p=yR l s.f0 l.length):=⟨by rw[← HQ.o,HPS.o,au hge]⟩
     go_wp2_with fail
     go_quiet (fail)
     go_wp2
     go_roundg p
     case measure=>omega
     case rel=>exact⟨p,by go_num,by omega,ay _,HPN,⟨oU HB.o _⟩⟩
    ·have g3:decide (s.f0≤t)=false:=aD hge;have g4:decide (t≥s.f0)=false:=aD hge;have HPN:oM (yR l s.f0 l.length=p+1):=⟨by rw[← HQ.o,HPS.o,av hge]⟩
     go_wp2_with fail
     go_quiet (fail)
     go_wp2_with fail
     go_meet
     exact⟨by rw[HPN.o];go_num,⟨oU HB.o _⟩⟩
 case rest=>
  obtain⟨rfl,HB⟩:=hcut;have HX:=Y7 (o7 HX0.o HB.o);have HBw:=Y7 (oP HB0.o HB.o);have ahx:=GA l s.f0 l.length;obtain⟨q,hq⟩:∃ q,q=yR l s.f0 l.length:=⟨_,rfl⟩;rw[← hq] at ahx ⊢;have HQ:=Y7 hq;clear hq HX0 HB;have y0:=oQ HX.o 0;have y1:=oQ HX.o 1
  by_cases hit:q<l.length∧(pI l (q:Int)).f0=s.f0
  ·obtain⟨hql,he⟩:=hit;have HV:oM (yF l s=l.set q s):=⟨by
    unfold yF;rw[← HQ.o];exact au ⟨hql,he⟩⟩
   obtain⟨ad,rfl,x0,_⟩:=tY (Kd.o9 HR.o HBw.o) (q:Int) (by omega) (by omega);rw[aG,he] at x0;have g1:decide ((q:Int)<(l.length:Int))=true:=aC (by omega);have gq:(q:Int)<(l.length:Int):=by omega
   clear he
   go_wp2_with fail
   go_quiet (fail)
   have HX2:oM ((wc.drewN nq).heap[bx]? = some (.cells #[.int .i64 s.f0,.int .u64 s.f1] 70 (0,0))):=HX;have HB2:=Y7 (oU HBw.o nq);clear HX HBw y0 y1 x0;generalize wc.drewN nq=w1 at HX2 HB2 ⊢;have hE:=Y7 (wu vX 70 w.heap.size w1 (fun _=>True) HB2.o.size bE);have HBA:=Y7 (oN HB2.o (.cells #[] 70 (0,0)));have HRA:=Y7 (Kd.o9 HR.o HBA.o);have HXA:=Y7 (pK HX2.o (.cells #[] 70 (0,0)))
   go_upto_region 6 with ((with_reducible refine qm (N:=40) rfl ?_);refine Kd.sD vX (w0:=w) w.heap.size rfl (.tmp 38) (.tmp 39) 49 70 (.agg #[.int .i64 0,.int .u64 0]) 16 rfl Tryz.underlying49 ze rfl (by decide) (by omega) _ [] l (some ad) l.length c (fun _=>True) (fun _=>False) rfl rfl hE.o HRA.o (fun x cs hx=>Ak hx) (fun _ hk=>hk.elim) (fun _ _=>bE) HBA.o ?hb ?hl ?_;(case hb=>exact HBA.o.size);(case hl=>(simp;omega));intro v1 w2 hR1 hB1 hg_ ho_;rw[cB] at hR1;have HR1:=Y7 hR1;have HB1:=Y7 hB1;have HG1:=Y7 hg_;clear hR1 hB1 hg_ ho_)
   have hbl:=qQ HX2.o;have HX3:=Y7 (qK HXA.o HG1.o (by
    show some bx≠some w1.heap.size;intro e;injection e with e
    omega))
   obtain⟨g,cap,hv,hbg,hgl,cur,hcur⟩:=Kd.EO HR1.o (by omega);subst hv;have HR2:oM (RS w2 w.heap.size (.slice (some ⟨g,0,none⟩) l.length cap) l):=HR1;obtain⟨ad2,aiS,z0,z1⟩:=tY (Kd.pE HR1.o).2.2 (q:Int) (by omega) (by omega);injection aiS with aiS
   subst aiS;rw[aG,add_plain] at z0 z1;have f0:=oW hcur (q*2);have f1:=oW hcur (q*2+1);have y0:=oQ HX3.o 0;have y1:=oQ HX3.o 1;have HRS:=Y7 (XO HR2.o rfl (by omega) q s);have HBS:=Y7 (pF (j:=q*2+1) (v := .int .u64 s.f1) (pF (j:=q*2) (v := .int .i64 s.f0) HB1.o hbg) hbg);clear hcur HG1 HR1 hbg hgl hbl;go_wp2;go_ret;exact⟨_,rfl,by rw[HV.o];exact HRS.o,HBS.o⟩
  ·have HV:oM (yF l s=l.take q++s::l.drop q):=⟨by
    unfold yF;rw[← HQ.o];exact av hit⟩
   have HXD:oM (∀ (W:World) (bi:Nat),Below w.heap.size w W→W.heap[bi]? = some (.cells #[.int .i64 s.f0,.int .u64 s.f1] 70 (0,0))→w.heap.size≤bi→RS W w.heap.size (.slice (some ⟨bi,0,none⟩) 1 1) [s]):=⟨fun W bi _ hb hbi=>OE ⟨rfl,.inr ⟨bi,1,#[.int .i64 s.f0,.int .u64 s.f1],rfl,hbi,hb,ay 1,by decide,rfl,rfl⟩⟩⟩;have HTK:oM (∀ W,Below w.heap.size w W→Kd.C vX W A q (l.take q)):=⟨fun W hb=>by
    have:=Kd.wZ (Kd.o9 HR.o hb) ahx;rwa [aW,dJ ahx] at this⟩
   have HDR:oM (∀ W,Below w.heap.size w W→Kd.C vX W (if c=q then A else A.map (·.add (q*2))) (l.length-q) (l.drop q)):=⟨fun W hb=>by
    have:=Kd.Bf (Kd.o9 HR.o hb) ahx hc;rwa [aX] at this⟩
   have aoO:(q:Int)≤(c:Int):=by omega
   have aoP:(q:Int)≤(l.length:Int):=by omega
   have HIT:oM (¬ (q<l.length∧(pI l (q:Int)).f0=s.f0)):=⟨hit⟩;have HLL:oM ((l.take q).length=q):=⟨by rw[aW];omega⟩;clear hit
   go_upto_region 4 with (fail)
   go_cut [37] (fun v37 wx=>v37 = .bool false∧oM (Below w.heap.size w wx)∧oM (wx.heap[bx]? = some (.cells #[.int .i64 s.f0,.int .u64 s.f1] 70 (0,0))))
   case first=>
    rcases dN q l.length with hql | hql
    ·obtain⟨ad,rfl,x0,_⟩:=tY (Kd.o9 HR.o HBw.o) (q:Int) (by omega) (by omega);rw[aG] at x0;have g1:decide ((q:Int)<(l.length:Int))=true:=aC (by omega);have gq:(q:Int)<(l.length:Int):=by omega
     have hne:¬ (pI l (q:Int)).f0=s.f0:=fun e=>HIT.o ⟨hql,e⟩
     generalize (pI l (q:Int)).f0=t at x0 hne;have g2:(t==s.f0)=false:=beq_eq_false_iff_ne.2 hne;have g3:decide (t=s.f0)=false:=aD hne
     go_wp2_with fail
     go_quiet (fail)
     go_wp2_with fail
     go_meet
     exact⟨rfl,⟨oU HBw.o _⟩,HX⟩
    ·have g1:decide ((q:Int)<(l.length:Int))=false:=aD (by omega);have gq:¬ (q:Int)<(l.length:Int):=by omega
     have gn:¬ q<l.length:=by omega
     have g3:decide (q<l.length)=false:=aD gn
     go_wp2_with fail
     go_quiet (fail)
     go_wp2_with fail
     go_meet
     exact⟨rfl,⟨oU HBw.o _⟩,HX⟩
   case rest=>
    obtain⟨rfl,HB2,HX2⟩:=hcut;clear HX HBw HB0 y0 y1 HIT
    go_upto_region 8 with (fail)
    refine DR (n:=13) (ds:=[]) (S:=fun w'=>w'.heap[bx]? = some (.cells #[.int .i64 s.f0,.int .u64 s.f1] 70 (0,0))) #[false,false,false,false,false,false,false,false,false,false,false,false,false] mixed rfl rfl HX2.o (fun hS=>?_);have hb2:=oV HB2.o;refine rC (i:=1) (N:=some 47) (v:=?_) (a':=?_) #[false,true,false,false,false,false,false,false,false,false,false,false,false] rfl rfl (by kernel_rfl) (fun _ _ _ h=>h) (Or.inl ⟨by rfl,?_⟩) ?_ ?_
    rotate_left
    ·intro w';go_simp
     try (with_reducible rfl)
    rotate_left
    ·simp only[Act.put,ah,ak,aj];rfl
    refine rC (i:=2) (N:=some 48) (v:=?_) (a':=?_) #[false,true,true,false,false,false,false,false,false,false,false,false,false] rfl rfl (by kernel_rfl) (fun _ _ _ h=>h) (Or.inl ⟨by rfl,?_⟩) ?_ ?_
    rotate_left
    ·intro w';go_simp
     try (with_reducible rfl)
    rotate_left
    ·simp only[Act.put,ah,ak,aj];rfl
    refine rC (i:=3) (N:=some 49) (v:=?_) (a':=?_) #[false,true,true,true,false,false,false,false,false,false,false,false,false] rfl rfl (by kernel_rfl) (fun _ _ _ h=>h) (Or.inl ⟨by rfl,?_⟩) ?_ ?_
    rotate_left
    ·intro w';go_simp
     try (with_reducible rfl)
    rotate_left
    ·simp only[Act.put,ah,ak,aj];rfl
    refine rC (i:=8) (N:=some 54) (v:=?_) (a':=?_) #[false,true,true,true,false,false,false,false,true,false,false,false,false] rfl rfl (by kernel_rfl) (fun _ _ _ h=>h) (Or.inl ⟨by rfl,?_⟩) ?_ ?_
    rotate_left
    ·intro w';go_simp
     try (with_reducible rfl)
    rotate_left
    ·simp only[Act.put,ah,ak,aj];rfl
    refine rC (i:=9) (N:=some 55) (v:=?_) (a':=?_) #[false,true,true,true,false,false,false,false,true,true,false,false,false] rfl rfl (by kernel_rfl) (fun _ _ _ h=>h) (Or.inl ⟨by rfl,?_⟩) ?_ ?_
    rotate_left
    ·intro w';go_simp
     try (with_reducible rfl)
    rotate_left
    ·simp only[Act.put,ah,ak,aj];rfl
    refine rC (i:=10) (N:=some 56) (v:=?_) (a':=?_) #[false,true,true,true,false,false,false,false,true,true,true,false,false] rfl rfl (by kernel_rfl) (fun _ _ _ h=>h) (Or.inl ⟨by rfl,?_⟩) ?_ ?_
    rotate_left
    ·intro w';go_simp
     try (with_reducible rfl)
    rotate_left
    ·simp only[Act.put,ah,ak,aj];rfl
    refine EI (i:=5) (N:=some 51) (v:=?_) (a':=?_) #[false,true,true,true,false,true,false,false,true,true,true,false,false] rfl rfl (by kernel_rfl) (fun _ _ _ h=>h) (Or.inl ⟨by rfl,?_⟩) hS ?_ ?_
    rotate_left
    ·rintro w' hS2;have c1:=oQ hS2 0;have c2:=oQ hS2 1;go_simp
     try (with_reducible rfl)
    rotate_left
    ·simp only[Act.put,ah,ak,aj];rfl
    have HB4:=Y7 hb2;have HX4:=Y7 hS;clear hS hb2 HX2 HB2;generalize wc.drew=w4 at HB4 HX4 ⊢;refine TM (σ:=Value × Value × Nat) 3 #[true,true,true,true,true,true,true,false,true,true,true,false,false] (fun z=>[(46,z.1),(50,z.2.1),(52,.slice (some ⟨z.2.2,0,none⟩) 1 1)]) (fun z W=>oM (W.heap[bx]? = some (.cells #[.int .i64 s.f0,.int .u64 s.f1] 70 (0,0)))∧oM (RS W w.heap.size z.2.1 (l.take q))∧oM (Below w.heap.size w W)∧oM (W.heap[z.2.2]? = some (.cells #[.int .i64 s.f0,.int .u64 s.f1] 70 (0,0)))∧oM (some z.2.2≠z.2.1.ownBlock)∧oM (w.heap.size≤z.2.2)∧oM (some bx≠z.2.1.ownBlock)) ?_ (fun HC=>?_)
    rotate_left
    -- SPLIT
    refine RV (i:=0) (j:=6) (Ni:=some 46) (Nj:=some 52) #[true,true,true,true,false,true,false,false,true,true,true,false,false] #[false,true,true,true,false,true,true,false,true,true,true,false,false] rfl rfl rfl rfl (by kernel_rfl) (by decide) (by decide) (fun K hK=>?_) (fun K hK=>?_)
    ·refine wF (v:=?_) (w1:=?_) (by rfl) rfl ?_ ?_
     rotate_left;rotate_left
     ·go_simp
      refine⟨?_,?_⟩<;>rfl
     have hE:=Y7 (wu vX 70 w.heap.size w4 (fun _=>True) HB4.o.size bE);have HB5:=Y7 (oN HB4.o (.cells #[] 70 (0,0)));have HX5:=Y7 (pK HX4.o (.cells #[] 70 (0,0)));refine hK.o _ _ HX5.o (fun hS9=>?_);clear hK hS9;clear K;refine tu (a':=?_) ?_ ?_
     rotate_left
     ·show Act.put _ (some 46) _=_;simp only[Act.put,ah,ak,aj];rfl
     refine RV (i:=4) (j:=6) (Ni:=some 50) (Nj:=some 52) #[true,true,true,true,true,true,false,false,true,true,true,false,false] #[true,true,true,true,false,true,true,false,true,true,true,false,false] rfl rfl rfl rfl (by kernel_rfl) (by decide) (by decide) (fun K hK=>?_) (fun K hK=>?_)
     ·refine Kd.qI vX (w0:=w) w.heap.size (by rfl) (.tmp 46) (.tmp 49) 49 70 (.agg #[.int .i64 0,.int .u64 0]) 16 rfl Tryz.underlying49 ze rfl (by decide) (by omega) _ [] (l.take q) A q c (fun _=>True) (fun _=>False) rfl rfl hE.o (HTK.o _ HB5.o) (fun x cs hx=>Ak hx) (fun _ hk=>hk.elim) (fun _ _=>bE) HB5.o ?hb ?hl ?_
      case hb=>exact HB5.o.size
      case hl=>(simp;omega)
      intro v5 w5 hR1 hB1 hg1 ZL;rw[cB] at hR1;have HX6:=Y7 (qK HX5.o hg1 (su (by have:=qQ HX4.o;omega)));have HN5:=Y7 (yt (qQ HX5.o) (su (by have:=qQ HX4.o;omega)) ZL);refine hK.o _ _ HX6.o (fun hS9=>?_);clear hK hS9;clear K;refine tu (a':=?_) ?_ ?_
      rotate_left
      ·show Act.put _ (some 50) _=_;simp only[Act.put,ah,ak,aj];rfl
      refine zG (i:=6) (N:=some 52) #[true,true,true,true,true,true,true,false,true,true,true,false,false] rfl rfl (by kernel_rfl) (by decide) (fun K hK=>?_);refine wF (v:=?_) (w1:=?_) (by rfl) rfl ?_ ?_
      rotate_left;rotate_left
      ·go_simp
       refine⟨?_,?_⟩<;>rfl
      have HX7:=Y7 (pK HX6.o (.cells #[.int .i64 s.f0,.int .u64 s.f1] 70 (0,0)));refine hK.o _ _ HX7.o (fun hS9=>?_);clear hK hS9;clear K;refine tu (a':=?_) ?_ ?_
      rotate_left
      ·show Act.put _ (some 52) _=_;simp only[Act.put,ah,ak,aj];rfl
      exact HC (_,v5,w5.heap.size) _ ⟨HX7,⟨Kd.sJ hR1 _⟩,⟨oN hB1 _⟩,⟨qx _ _⟩,⟨show some w5.heap.size≠v5.ownBlock from fun e=>kL _ (Kd.Qv hR1 _ e.symm)⟩,⟨hB1.size⟩,HN5⟩
     ·refine wF (v:=?_) (w1:=?_) (by rfl) rfl ?_ ?_
      rotate_left;rotate_left
      ·go_simp
       refine⟨?_,?_⟩<;>rfl
      have HX6:=Y7 (pK HX5.o (.cells #[.int .i64 s.f0,.int .u64 s.f1] 70 (0,0)));refine hK.o _ _ HX6.o (fun hS9=>?_);clear hK hS9;clear K;refine tu (a':=?_) ?_ ?_
      rotate_left
      ·show Act.put _ (some 52) _=_;simp only[Act.put,ah,ak,aj];rfl
      refine zG (i:=4) (N:=some 50) #[true,true,true,true,true,true,true,false,true,true,true,false,false] rfl rfl (by kernel_rfl) (by decide) (fun K hK=>?_);have HB6:=Y7 (oN HB5.o (.cells #[.int .i64 s.f0,.int .u64 s.f1] 70 (0,0)));refine Kd.qI vX (w0:=w) w.heap.size (by rfl) (.tmp 46) (.tmp 49) 49 70 (.agg #[.int .i64 0,.int .u64 0]) 16 rfl Tryz.underlying49 ze rfl (by decide) (by omega) _ [] (l.take q) A q c (fun _=>True) (fun _=>False) rfl rfl (Kd.sJ hE.o _) (HTK.o _ HB6.o) (fun x cs hx=>Ak hx) (fun _ hk=>hk.elim) (fun _ _=>bE) HB6.o ?hb ?hl ?_
      case hb=>exact HB6.o.size
      case hl=>(simp;omega)
      intro v5 w5 hR1 hB1 hg1 ZL;rw[cB] at hR1;refine hK.o _ _ (qK HX6.o hg1 (su (by have:=qQ HX4.o;omega))) (fun hS9=>?_);clear hK;clear K;have hn:(w4.alloc (.cells #[] 70 (0,0))).heap.size=w4.heap.size+1:=xq _ _;have HV5:oM (w5.heap[w4.heap.size+1]? = some (.cells #[.int .i64 s.f0,.int .u64 s.f1] 70 (0,0))):=⟨hn ▸ qK (qx (w4.alloc (.cells #[] 70 (0,0))) (.cells #[.int .i64 s.f0,.int .u64 s.f1] 70 (0,0))) hg1 (su (by omega))⟩;refine tu (a':=?_) ?_ ?_
      rotate_left
      ·show Act.put _ (some 50) _=_;simp only[Act.put,ah,ak,aj];rfl
      exact HC (_,v5,w4.heap.size+1) _ ⟨⟨hS9⟩,⟨hR1⟩,⟨hB1⟩,HV5,⟨show some (w4.heap.size+1)≠v5.ownBlock from yt (by rw[xq,xq];omega) (su (by omega)) ZL⟩,⟨show w.heap.size≤w4.heap.size+1 from Nat.le_succ_of_le HB4.o.size⟩,⟨yt (qQ HX6.o) (su (by have:=qQ HX4.o;omega)) ZL⟩⟩
    ·refine wF (v:=?_) (w1:=?_) (by rfl) rfl ?_ ?_
     rotate_left;rotate_left
     ·go_simp
      refine⟨?_,?_⟩<;>rfl
     have HB5:=Y7 (oN HB4.o (.cells #[.int .i64 s.f0,.int .u64 s.f1] 70 (0,0)));have HX5:=Y7 (pK HX4.o (.cells #[.int .i64 s.f0,.int .u64 s.f1] 70 (0,0)));refine hK.o _ _ HX5.o (fun hS9=>?_);clear hK hS9;clear K;refine tu (a':=?_) ?_ ?_
     rotate_left
     ·show Act.put _ (some 52) _=_;simp only[Act.put,ah,ak,aj];rfl
     refine zG (i:=0) (N:=some 46) #[true,true,true,true,false,true,true,false,true,true,true,false,false] rfl rfl (by kernel_rfl) (by decide) (fun K hK=>?_);refine wF (v:=?_) (w1:=?_) (by rfl) rfl ?_ ?_
     rotate_left;rotate_left
     ·go_simp
      refine⟨?_,?_⟩<;>rfl
     have hE:oM (RS ((w4.alloc (.cells #[.int .i64 s.f0,.int .u64 s.f1] 70 (0,0))).alloc (.cells #[] 70 (0,0))) w.heap.size (.slice (some ⟨w4.heap.size+1,0,none⟩) 0 0) []):=⟨by
      have:=wu vX 70 w.heap.size (w4.alloc (.cells #[.int .i64 s.f0,.int .u64 s.f1] 70 (0,0))) (fun _=>True) HB5.o.size bE;rwa [xq] at this⟩
     have HB6:=Y7 (oN HB5.o (.cells #[] 70 (0,0)));have HX6:=Y7 (pK HX5.o (.cells #[] 70 (0,0)));refine hK.o _ _ HX6.o (fun hS9=>?_);clear hK hS9;clear K;refine tu (a':=?_) ?_ ?_
     rotate_left
     ·show Act.put _ (some 46) _=_;simp only[Act.put,ah,ak,aj];rfl
     refine zG (i:=4) (N:=some 50) #[true,true,true,true,true,true,true,false,true,true,true,false,false] rfl rfl (by kernel_rfl) (by decide) (fun K hK=>?_);refine Kd.qI vX (w0:=w) w.heap.size (by rfl) (.tmp 46) (.tmp 49) 49 70 (.agg #[.int .i64 0,.int .u64 0]) 16 rfl Tryz.underlying49 ze rfl (by decide) (by omega) _ [] (l.take q) A q c (fun _=>True) (fun _=>False) rfl rfl hE.o (HTK.o _ HB6.o) (fun x cs hx=>Ak hx) (fun _ hk=>hk.elim) (fun _ _=>bE) HB6.o ?hb ?hl ?_
     case hb=>exact HB6.o.size
     case hl=>(simp;omega)
     intro v5 w5 hR1 hB1 hg1 ZL;rw[cB] at hR1;have hn:(w4.alloc (.cells #[.int .i64 s.f0,.int .u64 s.f1] 70 (0,0))).heap.size=w4.heap.size+1:=xq _ _;refine hK.o _ _ (qK HX6.o hg1 (su (by have:=qQ HX4.o;omega))) (fun hS9=>?_);clear hK;clear K;have HV5:=Y7 (qK (pK (qx w4 (.cells #[.int .i64 s.f0,.int .u64 s.f1] 70 (0,0))) (.cells #[] 70 (0,0))) hg1 (su (by omega)));refine tu (a':=?_) ?_ ?_
     rotate_left
     ·show Act.put _ (some 50) _=_;simp only[Act.put,ah,ak,aj];rfl
     exact HC (_,v5,w4.heap.size) _ ⟨⟨hS9⟩,⟨hR1⟩,⟨hB1⟩,HV5,⟨show some w4.heap.size≠v5.ownBlock from yt (by rw[xq,xq];omega) (su (by omega)) ZL⟩,⟨HB4.o.size⟩,⟨yt (qQ HX6.o) (su (by have:=qQ HX4.o;omega)) ZL⟩⟩
    rintro⟨v46,v50,vb⟩ w5 ⟨HX5,HR5,HB5,HV5,HN5,HG5,HNB⟩;refine tu (a':=?_) ?_ ?_
    rotate_left
    ·simp only[Fq,Act.put,ah,ak,aj];rfl
    have HS5:=Y7 (HXD.o w5 vb HB5.o HV5.o HG5.o);refine zG (i:=7) (N:=some 53) #[true,true,true,true,true,true,true,true,true,true,true,false,false] rfl rfl (by kernel_rfl) (by decide) (fun K hK=>?_);refine Kd.qI vX (w0:=w) w.heap.size (by rfl) (.tmp 50) (.tmp 52) 49 70 (.agg #[.int .i64 0,.int .u64 0]) 16 rfl Tryz.underlying49 ze rfl (by decide) (by omega) v50 (l.take q) [s] (some ⟨vb,0,none⟩) 1 1 (fun _=>True) (fun _=>False) rfl rfl HR5.o (Kd.pE HS5.o).2.2 (fun x cs hx=>Ak hx) (fun _ hk=>hk.elim) (fun _ _=>bE) HB5.o ?hb ?hl ?_
    case hb=>exact HB5.o.size
    case hl=>(have:=HLL.o;omega)
    intro v6 w6 hR6 hB6 hg6 akn;have amO:=Y7 (yt (qQ HX5.o) HNB.o akn);refine hK.o _ _ (qK HX5.o hg6 HNB.o) (fun hS9=>?_);clear hK;clear K;refine tu (a':=?_) ?_ ?_
    rotate_left
    ·show Act.put _ (some 53) _=_;simp only[Act.put,ah,ak,aj];rfl
    refine zG (i:=11) (N:=some 57) #[true,true,true,true,true,true,true,true,true,true,true,true,false] rfl rfl (by kernel_rfl) (by decide) (fun K hK=>?_);refine Kd.qI vX (w0:=w) w.heap.size (by rfl) (.tmp 53) (.tmp 56) 49 70 (.agg #[.int .i64 0,.int .u64 0]) 16 rfl Tryz.underlying49 ze rfl (by decide) (by omega) v6 (l.take q++[s]) (l.drop q) _ _ _ (fun _=>True) (fun _=>False) rfl rfl hR6 (HDR.o _ hB6) (fun x cs hx=>Ak hx) (fun _ hk=>hk.elim) (fun _ _=>bE) hB6 ?hb ?hl ?_
    case hb=>exact hB6.size
    case hl=>(have:=HLL.o;rw[aT,this];simp;omega)
    intro v7 w7 hR7 hB7 hg7 agK;refine hK.o _ _ (qK hS9 hg7 amO.o) (fun hS8=>?_);clear hK hS9;clear K;refine tu (a':=?_) ?_ ?_
    rotate_left
    ·show Act.put _ (some 57) _=_;simp only[Act.put,ah,ak,aj];rfl
    refine rC (i:=12) (N:=some 4) (v:=?_) (a':=?_) #[true,true,true,true,true,true,true,true,true,true,true,true,true] rfl rfl (by kernel_rfl) (fun _ _ _ h=>h) (Or.inl ⟨by rfl,?_⟩) ?_ ?_
    rotate_left
    ·intro w';go_simp
     try (with_reducible rfl)
    rotate_left
    ·simp only[Act.put,ah,ak,aj];rfl
    refine Hr (by kernel_rfl) ?_;go_wp2
    all_goals
     go_ret;exact⟨v7,rfl,by rw[HV.o];rw[bC] at hR7;exact hR7,hB7⟩
end Go.Proofs.Y.PA

/- Of the law rZIQDumpBack. -/
import Derived.Test.YtcgbgifbajdhpaaGreatDoorZI39
set_option linter.unusedVariables false
set_option linter.unusedSimpArgs false
set_option maxHeartbeats 4000000
set_option maxRecDepth 100000
namespace Go
abbrev kY:=@Go.World.alloc_heap_new
abbrev ou:=@decide_eq_false_iff_not
end Go
namespace Go.Proofs.Y.PA
open Go.RowKit Go.Proofs.Y.G Go.Proofs.YW.o7 Go.Proofs.YW.pJ Go.Proofs.YW.pO
attribute [local go_sem] Oper.semAt_some
theorem Wv.c (A1:Option Addr)(n1 c1:Nat)(W:World) :
 Calls Tryz.prog 60 #[.slice A1 n1 c1,.int .i64 20] W fun e w'=>e = .returned (.func (.func 90) #[] #[.pointer (some ⟨W.heap.size,0,none⟩),.pointer (some ⟨W.heap.size+1,0,none⟩)])∧w'=(W.alloc (.cells #[.slice A1 n1 c1] 49)).alloc (.cells #[.int .i64 20] 3):=by
 go_enter Tryz.func60,Tryz.ntmps60
 go_wp2;go_ret;exact⟨rfl,rfl⟩
theorem wB.c (A:Option Addr)(c n:Nat)(l:List qJ)(w:World)(hn:l.length=n)(hr:Kd.C yD w A n l)(hc:n≤c)(hok:KL l)(hl:n≤1000000)(hM:uH l=true→(wB l).length≤500000000)(hT:xZ w)(h:uH l=true) :
 Calls Tryz.prog 28 #[.slice A n c] w fun e w'=>∃ v:Value,e = .returned (.tuple #[v,.int .i64 0])∧Kd.R (Kd.int .u8) 5 w' w.heap.size (fun _=>True) v (wB l)∧Below w.heap.size w w':=by
 subst hn;have HR:=Yu hr;have HK:=Yu hok;have HT:=Yu hT;have agG:oZ (Calls Tryz.prog 53 #[.slice A l.length c] w fun e w'=>e = .returned (.bool true)∧Below w.heap.size w w'):=⟨h ▸ uH.c A c l.length l w rfl hr hc hok (by omega)⟩;have HP:=Yu (F9 h);have HEC:=Yu (hM h);clear hr hok hT h hM;refine (callsIn_wide (n:=5)).1 (callsIn_of_wp_marks Tryz.func28 rfl dD ?_ rfl);simp only[Tryz.ntmps28,nQ,bC,fK,Nat.reduceAdd,Nat.reduceSub,Array.replicate_succ,Array.replicate_zero,List.push_toArray,List.append_toArray,dL,gH];refine wpIn_wide.2 ?_
 go_wp2_with (first|(go_at_call 53;(with_reducible refine agG.o.mono ?_);rintro e w1 ⟨rfl,hb⟩;have HB1:=Yu hb;clear hb))
 have HB0:=Yu (o8 HB1.o (.cells #[.slice none 0 0] 24));have HO0:(w1.alloc (.cells #[.slice none 0 0] 24)).heap[w1.heap.size]? = some (.cells #[.slice none 0 0] 24 (0,0)):=kY _ _;have HV0:oZ (Kd.R (Kd.int .u8) 5 (w1.alloc (.cells #[.slice none 0 0] 24)) w.heap.size (fun _=>True) (.slice none 0 0) (wB (l.take 0))):=⟨Kd.ug _ _ _ _ _⟩;refine wp_loop_ghost_k (fun gk a wr=>∃ (k:Nat) (Ds:List Nat) (u6 u7 u8 u18 u19 u20 u21 u22 u23 u24 u25 u26 u27 u28 u29 u48:Value),(k+gk=l.length∧Ds.Nodup∧(∀ D∈Ds,w1.heap.size<D∧wr.heap[D]? = some (.deferred (some [])))∧oZ (Below w.heap.size w wr)∧∃ v:Value,wr.heap[w1.heap.size]? = some (.cells #[v] 24 (0,0))∧oZ (Kd.R (Kd.int .u8) 5 wr w.heap.size (fun _=>True) v (wB (l.take k))))∧a={ tmps := #[.slice A l.length c,undef,.slice none 0 0,.int .i64 0,.pointer (some ⟨w1.heap.size,0,none⟩),undef,u6,u7,u8,undef,undef,undef,.slice A l.length c,.bool true,.bool false,.slice A l.length c,.int .i64 (l.length:Int),.int .i64 (k:Int),u18,u19,u20,u21,u22,u23,u24,u25,u26,u27,u28,u29,undef,undef,undef,undef,undef,undef,undef,undef,undef,undef,undef,undef,undef,undef,undef,undef,undef,undef,u48,undef],defers:=Ds.map VW }) l.length ?start ?round
 case start=>exact⟨0,[],_,_,_,_,_,_,_,_,_,_,_,_,_,_,_,_,⟨dX _,List.nodup_nil,(fun D h=>by cases h),HB0,_,HO0,HV0⟩,rfl⟩
 case round=>
  clear HB0 HO0 HV0;rintro gk a wr ⟨k,Ds,u6,u7,u8,u18,u19,u20,u21,u22,u23,u24,u25,u26,u27,u28,u29,u48,⟨hk,hnd,hD,HB,v,hO,HV⟩,rfl⟩ J K hJ hK;dsimp only
  by_cases hlt:k<l.length
  ·obtain⟨ad,A0,c0,A1,c1,rfl,e0,e1,l0,g0,l1,g1⟩:=uY HR.o (k:Int) (by omega) (by omega);rw[bf] at e0 e1;have e0:=qm HB.o e0;have e1:=qm HB.o e1;have HX:=Yu (HK.o _ (yJ l k hlt));have agH:=Yu (HK.o _ (yJ l k hlt)).2.2.1;have HCX:=Yu (HP.o k hlt);obtain⟨x,ex⟩:∃ x,pK l (k:Int)=x:=⟨_,rfl⟩;have EX:=Yu ex;rw[ex] at e0 e1 HX g0 l0 g1 l1 agH;have G0:=Yu g0;have L0:=Yu l0;have G1:=Yu g1;have L1:=Yu l1;obtain⟨a1,hA1,_⟩:=g1.2.2 (Nat.pos_of_ne_zero (by
    have h1:=HCX.o;rw[IC,ex,Bd] at h1;simp only[dx,kE,ou] at h1;exact h1.1.2.1))
   clear ex g0 l0 g1 l1;subst hA1;have HCL:oZ (rF x.f0=true∧uZ x.f1=true∧¬ x.f1.length=0):=⟨by
    have h1:=HCX.o;rw[IC,EX.o,Bd] at h1;simp only[dx,kE,ou] at h1;exact⟨h1.1.1,h1.1.2.2,h1.1.2.1⟩⟩
   have HBW:=Yu (o8 (bq wr.heap.size wr) (.cells #[.slice A0 x.f0.length c0,.slice (some a1) x.f1.length c1] 51 (0,0)));have HBK:=Yu (qG wr (.cells #[.slice A0 x.f0.length c0,.slice (some a1) x.f1.length c1] 51 (0,0)));have CE:=Yu (fun W (hb:Below wr.heap.size wr W)=>vM.c A0 c0 _ x.f0 W rfl (Kd.pI G0.o (o9 HB.o hb)) L0.o HCL.o.1)
   go_wp2_with (first|(go_at_call 59;(with_reducible refine (CE.o _ HBW.o).mono ?_);rintro e w2 ⟨v5,rfl,hr5,hb⟩;obtain⟨a5,c5,rfl⟩:=Kd.uI hr5 (by simp[vM]);have HR5:=Yu hr5;have HB2:=Yu (o9 HBW.o hb);have Z4:=Yu (pG HBK.o hb);have b1:=tX (.cells #[.slice (some a5) (vM x.f0).length c5] 24) ((pq Z4.o 1).trans rfl);clear hb hr5)|(go_at_call 60;(with_reducible refine (Wv.c (some a1) _ c1 _).mono ?_);rintro e w3 ⟨rfl,rfl⟩))
   obtain⟨W0,hW0⟩:∃ W0,(((w2.alloc (.cells #[.slice (some a5) (vM x.f0).length c5] 24)).alloc (.cells #[.slice (some a1) x.f1.length c1] 49)).alloc (.cells #[.int .i64 20] 3))=W0:=⟨_,rfl⟩;have hs0:W0.heap.size=w2.heap.size+3:=by rw[← hW0];simp
   have H2W:oZ (Below w2.heap.size w2 W0):=⟨by rw[← hW0];exact o8 (o8 (o8 (bq _ _) _) _) _⟩;have HU:oZ (W0.heap[w2.heap.size]? = some (.cells #[.slice (some a5) (vM x.f0).length c5] 24 (0,0))):=⟨by
    rw[← hW0];exact ((mq _ _ _ (by simp;omega)).trans (mq _ _ _ (by simp))).trans (kY w2 _)⟩
   have HX1:oZ (W0.cell? ⟨w2.heap.size+1,0,none⟩=some (.slice (some a1) x.f1.length c1)):=⟨by
    have h0:W0.heap[w2.heap.size+1]? = some (.cells #[.slice (some a1) x.f1.length c1] 49 (0,0)):=by
     rw[← hW0];refine (mq _ _ _ (by simp)).trans ?_;have:=kY (w2.alloc (.cells #[.slice (some a5) (vM x.f0).length c5] 24)) (.cells #[.slice (some a1) x.f1.length c1] 49);rwa [eG] at this
    exact (je W0 _ 0 _ _ _ h0).trans rfl⟩
   have HX2:oZ (W0.cell? ⟨w2.heap.size+1+1,0,none⟩=some (.int .i64 20)):=⟨by
    have h0:W0.heap[w2.heap.size+1+1]? = some (.cells #[.int .i64 20] 3 (0,0)):=by
     rw[← hW0];have:=kY ((w2.alloc (.cells #[.slice (some a5) (vM x.f0).length c5] 24)).alloc (.cells #[.slice (some a1) x.f1.length c1] 49)) (.cells #[.int .i64 20] 3);rwa [eG,eG] at this
    exact (je W0 _ 0 _ _ _ h0).trans rfl⟩
   rw[hW0];have HrW:=Yu (o9 HB2.o H2W.o);have hsz:w1.heap.size<wr.heap.size:=(Array.getElem?_eq_some_iff.1 hO).1;have akD:wr.heap.size≤w2.heap.size:=HB2.o.size;have akE:w.heap.size≤w1.heap.size:=HB1.o.size;have hO0:W0.heap[w1.heap.size]? = some (.cells #[v] 24 (0,0)):=(HrW.o.block _ hsz).trans hO;have HV0:=Yu (Kd.qO HV.o HrW.o);have ajz:=Yu (Kd.vD (Kd.sj (Kd.qO HR5.o H2W.o) (base':=wr.heap.size) (by simp)));have HBT:=Yu (o9 HB.o HrW.o);have hD0:∀ D∈Ds,w1.heap.size<D∧D<W0.heap.size∧W0.heap[D]? = some (.deferred (some [])):=fun D h=>by
    have h1:=hD D h;have h2:=(Array.getElem?_eq_some_iff.1 h1.2).1;exact⟨h1.1,by have:=HrW.o.size;omega,(HrW.o.block D h2).trans h1.2⟩
   have HEL:oZ ((vM x.f0).length≤600):=⟨DF HCL.o.1⟩;have HPL:oZ ((wB (l.take k)).length≤500000000):=⟨bM (Qf l k) HEC.o⟩;have HOS:oZ (∀ s∈x.f1,Dn s):=⟨HX.o.2.2.2⟩;have hn3:(x.f1.length+19) / 20≤50001:=by have:=agH.o;omega
   have hTW:=Yu (HT.o.below HBT.o);clear hW0 HBK Z4 b1 e0 e1 G0 L0 HBW CE hO hD;generalize hu:vM x.f0=u at *;refine wpIn_wide.1 (wpIn_rangeFunc_ownF (F:=Fence.wide) (n:=5) rfl (by decide) (gf:=90) (lb := #[.pointer (some ⟨w2.heap.size+1,0,none⟩),.pointer (some ⟨w2.heap.size+1+1,0,none⟩)]) rfl dD (enters_of Tryz.func90 (by kernel_rfl) rfl)
    (Iq 4 (by decide) (w2.heap.size+1) (w2.heap.size+1+1) a1 x.f1.length c1 (by have:=agH.o;omega) L1.o W0 (by omega) (by omega) HX1.o HX2.o) wJ.trans (U6 (by omega) (by omega)) (bq _ _) (fun _=>rfl)
    (fun pre W=>(∃ vo,W.heap[w1.heap.size]? = some (.cells #[vo] 24 (0,0))∧Kd.R (Kd.int .u8) 5 W w.heap.size (fun _=>True) vo (wB (l.take k)++zy u x.f1 (vU pre)))∧But w1.heap.size W0.heap.size W0 W)
    (fun _ _ _=>False) ?own (fun _ _ _ _ _ hs _ _=>hs) ?first _ (fun lp y W K hK=>by dsimp only[LH];gi_wp2;exact hK) ?body ?done ?stop)
   case own=>
    rintro s W W' row ⟨⟨vo,ho,hv⟩,hb⟩ hg hr;refine⟨⟨vo,?_,Rx hv hg (fun r e=>(hr r e).2)⟩,hb.grown hg (aD _) (fun r e=>(hr r e).1)⟩;refine (hg.block _ (Array.getElem?_eq_some_iff.1 ho).1 (fun e=>?_)).trans ho;have:=(hr _ e.symm).1;omega
   case first=>exact⟨⟨v,hO0,by have:=HV0.o;simpa [zy,vU] using this⟩,But.refl _ _ _⟩
   case stop=>exact fun _ _ _ _ _ _ h=>h.elim
   case done=>
    rintro D ys W hDs hys ⟨⟨vo,ho,hv⟩,aal⟩ hDn;have HBn:oZ (Below w.heap.size w W):=⟨HBT.o.trans (aal.below (by omega) (by omega))⟩;have HVn:oZ (Kd.R (Kd.int .u8) 5 W w.heap.size (fun _=>True) vo (wB (l.take (k+1)))):=⟨by
     rw[Qg l k hlt,EX.o];have e:zy u x.f1 (vU ys)=Gr x:=by rw[hys,Gr,hu];rfl
     rwa [e] at hv⟩
    have HDn:oZ ((D::Ds).Nodup∧∀ D'∈D::Ds,w1.heap.size<D'∧W.heap[D']? = some (.deferred (some []))):=⟨by
     refine⟨List.nodup_cons.2 ⟨fun h=>by have:=hD0 D h;omega,hnd⟩,fun D' h=>?_⟩;rcases List.mem_cons.1 h with rfl | h
     ·exact⟨by omega,hDn⟩
     ·exact⟨(hD0 D' h).1,(aal.block D' (hD0 D' h).2.1 (by have:=(hD0 D' h).1;omega)).trans (hD0 D' h).2.2⟩⟩
    clear aal hv hDn hys hD0;go_wp2;have hkl:Value.int .i64 ((k:Int)+1) = .int .i64 ((k+1:Nat):Int):=by congr 1
    rw[hkl];exact Handed.intro (gk-1) (by omega) (hJ _ _ _ ⟨k+1,D::Ds,_,_,_,_,_,_,_,_,_,_,_,_,_,_,_,_,⟨by omega,HDn.o.1,HDn.o.2,HBn,vo,ho,HVn⟩,rfl⟩)
   case body=>
    rintro lp pre ⟨j,hj⟩ W ⟨⟨vo,ho,hv⟩,aal⟩ hlen;dsimp only;have hbw:Below w.heap.size w W:=HBT.o.trans (aal.below (by omega) (by omega));obtain⟨q,hq⟩:∃ q,vZ x.f1 j=q:=⟨_,rfl⟩;obtain⟨m,hm⟩:∃ m,zq x.f1.length j=m:=⟨_,rfl⟩;have hql:q.length=m:=by rw[← hq,AL,hm]
    have ajA:1≤m∧m≤20∧j*20+m≤x.f1.length:=by rw[← hm];unfold zq;omega
    have HQO:oZ (∀ s∈q,Dn s):=⟨fun s hs=>HOS.o s (D5 (hq ▸ hs))⟩;have HQC:oZ (uZ q=true):=⟨hq ▸ Dv HCL.o.2.1 j⟩;have HQ:oZ (Kd.C vk W (some (a1.add (j*20*2))) q.length q):=⟨by
     have h1:=Kd.Rh (c:=c1) (lo:=j*20) (hi:=j*20+m) (Kd.pI G1.o hbw) (by omega) ajA.2.2 L1.o;rw[aK (by have:=L1.o;omega)] at h1;have e:(x.f1.take (j*20+m)).drop (j*20)=q:=by rw[← hq,← hm];rfl
     rw[e] at h1;exact h1⟩
    have ENC:=Yu (su.qP (n:=m) (some (a1.add (j*20*2))) m q W (uJ q) 0 hql HQ.o (aD _) HQO.o (by omega) (HT.o.below hbw) (by rw[zG,ak HQC.o]));have HQL:oZ ((uJ q).length≤410∧0<(uJ q).length):=⟨Gp (by omega) HQO.o HQC.o,by rw[uJ,bg,qE];omega⟩;rw[hm];refine wpIn_block (wpIn_seq ?_)
    gi_wp2_with (first|(refine⟨dD,?_⟩;gi_at_call 61;(refine (CallsIn.inRound lp (callsIn_wide.2 ENC.o)).mono ?_);rintro e wa ⟨v1,rfl,hr1,hb1⟩;obtain⟨a6,c6,rfl⟩:=Kd.uI hr1 HQL.o.2;have HRa:=Yu hr1;have HBa:=Yu hb1;clear hr1 hb1))
    obtain⟨LV,hLV⟩:∃ LV,wB (l.take k)++zy u x.f1 (vU pre)=LV:=⟨_,rfl⟩;rw[hLV] at hv;obtain⟨Av,cv,rfl⟩:=Kd.qo hv;have ajB:oZ (Kd.R (Kd.int .u8) 5 wa wr.heap.size (fun _=>True) (.slice (some a5) u.length c5) u):=⟨by
     have h1:=Kd.Nh ajz.o (w1:=W) (fun k hk=>aal.block k hk.2.2.1 (by have:=hk.2.1;omega));exact Kd.sD (Kd.qO h1 HBa.o) (fun _ _=>dD)⟩
    have HVa:=Yu (Kd.qO hv HBa.o);have HOa:oZ (wa.heap[w1.heap.size]? = some (.cells #[.slice Av LV.length cv] 24 (0,0))):=⟨(HBa.o.block _ (Array.getElem?_eq_some_iff.1 ho).1).trans ho⟩;have HUa:oZ (wa.heap[w2.heap.size]? = some (.cells #[.slice (some a5) u.length c5] 24 (0,0))):=⟨(HBa.o.block _ (by have:=aal.size;omega)).trans ((aal.block _ (by omega) (by omega)).trans HU.o)⟩;refine Dj lp _ (by kernel_rfl) (by kernel_rfl) (qy.start (n:=12) (S:=fun W'=>Below wa.heap.size wa W') (by decide) ?_);have HcO:oZ (∀ W',Below wa.heap.size wa W'→W'.cell? ⟨w1.heap.size,0,none⟩=some (.slice Av LV.length cv)):=⟨fun W' hb=>qm hb ((je wa _ 0 _ _ _ HOa.o).trans rfl)⟩;have HcU:oZ (∀ W',Below wa.heap.size wa W'→W'.cell? ⟨w2.heap.size,0,none⟩=some (.slice (some a5) u.length c5)):=⟨fun W' hb=>qm hb ((je wa _ 0 _ _ _ HUa.o).trans rfl)⟩;have HS:=Yu (rM (bq wa.heap.size wa));refine qy.take' (i:=0) (v:=?_) rfl rfl (by kernel_rfl) (fun _ _ _ h=>by cases h.1) (Or.inl ⟨by rfl,?_⟩) HS.o ?_
    rotate_left
    ·(intro W' hW';have c1:=HcO.o W' hW';have c2:=HcU.o W' hW';go_simp;try (with_reducible rfl))
    try simp only[ah,aI,ay]
    refine qy.take' (i:=1) (v:=?_) rfl rfl (by kernel_rfl) (fun _ _ _ h=>by cases h.1) (Or.inl ⟨by rfl,?_⟩) HS.o ?_
    rotate_left
    ·(intro W' hW';have c1:=HcO.o W' hW';have c2:=HcU.o W' hW';go_simp;try (with_reducible rfl))
    try simp only[ah,aI,ay]
    refine qy.take' (i:=2) (v:=?_) rfl rfl (by kernel_rfl) (fun _ _ _ h=>by cases h.1) (Or.inl ⟨by rfl,?_⟩) HS.o ?_
    rotate_left
    ·(intro W' hW';have c1:=HcO.o W' hW';have c2:=HcU.o W' hW';go_simp;try (with_reducible rfl))
    try simp only[ah,aI,ay]
    refine qy.take' (i:=3) (v:=?_) rfl rfl (by kernel_rfl) (fun _ _ _ h=>by cases h.1) (Or.inl ⟨by rfl,?_⟩) HS.o ?_
    rotate_left
    ·(intro W' hW';have c1:=HcO.o W' hW';have c2:=HcU.o W' hW';go_simp;try (with_reducible rfl))
    try simp only[ah,aI,ay]
    refine qy.take' (i:=4) (v:=?_) rfl rfl (by kernel_rfl) (fun _ _ _ h=>by cases h.1) (Or.inl ⟨by rfl,?_⟩) HS.o ?_
    rotate_left
    ·(intro W' hW';have c1:=HcO.o W' hW';have c2:=HcU.o W' hW';go_simp;try (with_reducible rfl))
    try simp only[ah,aI,ay]
    refine qy.take' (i:=5) (v:=?_) rfl rfl (by kernel_rfl) (fun _ _ _ h=>by cases h.1) (Or.inl ⟨by rfl,?_⟩) HS.o ?_
    rotate_left
    ·(intro W' hW';have c1:=HcO.o W' hW';have c2:=HcU.o W' hW';go_simp;try (with_reducible rfl))
    try simp only[ah,aI,ay]
    refine qy.take' (i:=6) (v:=?_) rfl rfl (by kernel_rfl) (fun _ _ _ h=>by cases h.1) (Or.inl ⟨by rfl,?_⟩) HS.o ?_
    rotate_left
    ·(intro W' hW';have c1:=HcO.o W' hW';have c2:=HcU.o W' hW';go_simp;try (with_reducible rfl))
    try simp only[ah,aI,ay]
    refine qy.take' (i:=8) (v:=?_) rfl rfl (by kernel_rfl) (fun _ _ _ h=>by cases h.1) (Or.inl ⟨by rfl,?_⟩) HS.o ?_
    rotate_left
    ·(intro W' hW';have c1:=HcO.o W' hW';have c2:=HcU.o W' hW';go_simp;try (with_reducible rfl))
    try simp only[ah,aI,ay]
    refine qy.take' (i:=9) (v:=?_) rfl rfl (by kernel_rfl) (fun _ _ _ h=>by cases h.1) (Or.inl ⟨by rfl,?_⟩) HS.o ?_
    rotate_left
    ·(intro W' hW';have c1:=HcO.o W' hW';have c2:=HcU.o W' hW';go_simp;try (with_reducible rfl))
    try simp only[ah,aI,ay]
    have PUT:oZ (∀ W',Calls Tryz.prog 31 #[.int .u64 (IntKind.u64.wrap (IntKind.i64.wrap ((u.length:Int)+((uJ q).length:Int)))),.int .i64 4] W' fun e w'=>∃ v0_:Value,e = .returned v0_∧Kd.R (Kd.int .u8) 5 w' W'.heap.size (fun _=>True) v0_ (sS (u.length+(uJ q).length) 4)∧Below W'.heap.size W' w'):=⟨fun W'=>vQ.c _ _ _ W' (by
     have h1:IntKind.i64.wrap ((u.length:Int)+((uJ q).length:Int))=((u.length+(uJ q).length:Nat):Int):=by
      rw[bI];have:=HEL.o;have:=HQL.o;omega
     have h2:=VY (q:=((u.length+(uJ q).length:Nat):Int)) (by omega) (by have:=HEL.o;have:=HQL.o;omega) 4;rw[h1];rwa [bf] at h2)⟩
    refine qy.one (i:=7) rfl (by kernel_rfl) (by rfl) (fun KK hKK=>?_);go_simp
    refine (PUT.o _).mono ?_;rintro e wb ⟨v3,rfl,hr3,hb3⟩;obtain⟨a3,c3,rfl⟩:=Kd.uI hr3 (by rw[qE];decide);have HRb:=Yu hr3;have HBb:=Yu (o9 HS.o hb3);refine hKK _ _ HBb.o ?_;clear hKK hr3 hb3 HcO HcU;refine qy.one (i:=10) rfl (by kernel_rfl) (by rfl) (fun K1 hK1=>?_);go_simp
    have HBc:=Yu (o8 HBb.o (.cells #[.slice Av LV.length cv,.slice (some a3) (sS (u.length+(uJ q).length) 4).length c3,.slice (some a5) u.length c5,.slice (some a6) (uJ q).length c6] 24));have HNb:=Yu (qG wb (.cells #[.slice Av LV.length cv,.slice (some a3) (sS (u.length+(uJ q).length) 4).length c3,.slice (some a5) u.length c5,.slice (some a6) (uJ q).length c6] 24));have ajC:=Yu (o8 (bq wb.heap.size wb) (.cells #[.slice Av LV.length cv,.slice (some a3) (sS (u.length+(uJ q).length) 4).length c3,.slice (some a5) u.length c5,.slice (some a6) (uJ q).length c6] 24));refine hK1 _ _ HBc.o ?_;clear hK1;generalize (wb.alloc (.cells #[.slice Av LV.length cv,.slice (some a3) (sS (u.length+(uJ q).length) 4).length c3,.slice (some a5) u.length c5,.slice (some a6) (uJ q).length c6] 24))=wc at *;have hv1:=Kd.qO HVa.o HBc.o;have hr3:=Kd.qO HRb.o ajC.o;have hr5:=Kd.qO ajB.o HBc.o;have hr6:=Kd.qO HRa.o HBc.o;have ajD:oZ (LV.length≤600000000):=⟨by
     rw[← hLV,bg];have h1:=HPL.o;have h2:=Jd (l:=x.f1) HEL.o HOS.o HCL.o.2.1 (vU pre);rw[Bu] at h2;omega⟩
    have CON:=Yu (OP.c (some ⟨wb.heap.size,0,none⟩) 4 4 [LV,sS (u.length+(uJ q).length) 4,u,uJ q] wc rfl
     (WC wc wb.heap.size Av (some a3) (some a5) (some a6) cv c3 c5 c6 LV _ u _ _ _ HNb.o (Kd.pR hv1).2.2 (Kd.pR hv1).2.1 (Kd.pR hr3).2.2 (Kd.pR hr3).2.1 (Kd.pR hr5).2.2 (Kd.pR hr5).2.1 (Kd.pR hr6).2.2 (Kd.pR hr6).2.1) (by decide) (by
      simp only[fV,List.flatten_nil,bg,fK,qE];have:=ajD.o;have:=HEL.o;have:=HQL.o;omega))
    clear hv1 hr3 hr5 hr6;refine qy.one (i:=11) rfl (by kernel_rfl) (by rfl) (fun K2 hK2=>?_);go_simp
    refine CON.o.mono ?_;rintro e wd ⟨v4,rfl,hr4,hb4⟩;obtain⟨LN,hLN⟩:∃ LN,[LV,sS (u.length+(uJ q).length) 4,u,uJ q].flatten=LN:=⟨_,rfl⟩;rw[hLN] at hr4;have HLN:oZ (wB (l.take k)++zy u x.f1 (vU (pre++[⟨j,hj⟩]))=LN):=⟨by
     rw[zU,NC,hq,← bH,hLV,← hLN,wU];simp only[fV,List.flatten_nil,fq]⟩
    clear hLN;obtain⟨A4,c4,rfl⟩:=Kd.qo hr4;have HBd:=Yu (o9 HBc.o hb4);have HRd:=Yu hr4;clear hr4 hb4;refine hK2 _ _ HBd.o ?_;clear hK2;have HOd:oZ (wd.heap[w1.heap.size]? = some (.cells #[.slice Av LV.length cv] 24 (0,0))):=⟨(HBd.o.block _ (Array.getElem?_eq_some_iff.1 HOa.o).1).trans HOa.o⟩;have co:wd.cell? ⟨w1.heap.size,0,none⟩=some (.slice Av LV.length cv):=(je wd _ 0 _ _ _ HOd.o).trans rfl;have fo:wd.frozen? ⟨w1.heap.size,0,none⟩=false:=pE HOd.o 0;refine qy.last rfl (by kernel_rfl) (by rfl) (fun K3 hK3=>?_);go_simp
    refine hK3 _ _ ⟨rfl,?_⟩;clear hK3 co fo;have hsW:W.heap.size≤wa.heap.size:=HBa.o.size;have hsa:wa.heap.size≤wd.heap.size:=HBd.o.size;have HWd:=Yu (o9 HBa.o HBd.o);have hO5:(wd.setCell ⟨w1.heap.size,0,none⟩ (.slice A4 LN.length c4)).heap[w1.heap.size]? = some (.cells #[.slice A4 LN.length c4] 24 (0,0)):=qH HOd.o 0 _ rfl;refine⟨⟨by simp;omega,fun i o hi ho'=>?_⟩,⟨?_,?_⟩,⟨.slice A4 LN.length c4,hO5,?_⟩,?_⟩
    ·have h1:=(HWd.o.block _ (Array.getElem?_eq_some_iff.1 hi).1).trans hi;refine (fZ wd ⟨w1.heap.size,0,none⟩ _ i (fun e=>?_)).trans h1;have e':i=w1.heap.size:=e;subst e';rw[HOd.o] at h1;injection h1 with h1
     subst h1;cases ho'
    ·exact (fZ wd ⟨w1.heap.size,0,none⟩ _ _ (fun e=>by have e':w2.heap.size+1=w1.heap.size:=e;omega)).trans (HWd.o.block _ (by have:=aal.size;omega))
    ·exact (fZ wd ⟨w1.heap.size,0,none⟩ _ _ (fun e=>by have e':w2.heap.size+1+1=w1.heap.size:=e;omega)).trans (HWd.o.block _ (by have:=aal.size;omega))
    ·rw[HLN.o];have h1:=Kd.uG (Kd.vD HRd.o) (p:=⟨w1.heap.size,0,none⟩) (fun i hi=>(by have h1:=hi.2.1;have h2:=HBc.o.size;have h3:=aal.size;show i≠w1.heap.size;omega)) (.slice A4 LN.length c4);exact Kd.sD (Kd.sj h1 (base':=w.heap.size) (by have:=HBc.o.size;have:=aal.size;omega)) (fun _ _=>dD)
    ·exact (aal.trans (But.of_below (HWd.o.mono aal.size))).setCell 0 _
  ·obtain rfl:k=l.length:=by omega
   have hnk:¬ ((l.length:Int)<(l.length:Int)):=by omega
   rw[dW] at HV;obtain⟨Av,cv,rfl⟩:=Kd.qo HV.o;have co:=(je wr w1.heap.size 0 _ _ _ hO).trans rfl;go_wp2;refine CO (fun W=>Kd.R (Kd.int .u8) 5 W w.heap.size (fun _=>True) (.slice Av (wB l).length cv) (wB l)∧Below w.heap.size w W) (fun W hM=>?_) Ds wr hnd (fun D h=>(hD D h).2) (fun D h W hM hd=>?_) ⟨HV.o,HB.o⟩
   ·exact⟨_,gB rfl _ _ _,_,rfl,hM.1,hM.2⟩
   ·exact⟨Rx hM.1 (grownBy_putObj' W D _) (fun r e=>by cases e;exact⟨_,hd,rfl⟩),hM.2.trans (belowK_b (w:=w) (aD _) W D _ _ (by have:=(hD D h).1;have:=HB1.o.size;omega) hd rfl rfl)⟩
theorem wB.bad (A:Option Addr)(c n:Nat)(l:List qJ)(w:World)(hn:l.length=n)(hr:Kd.C yD w A n l)(hc:n≤c)(hok:KL l)(hl:n≤1000000)(h:uH l=false) :
 Calls Tryz.prog 28 #[.slice A n c] w fun e w'=>e = .returned (.tuple #[.slice none 0 0,.int .i64 1])∧Below w.heap.size w w':=by
 subst hn;have agG:oZ (Calls Tryz.prog 53 #[.slice A l.length c] w fun e w'=>e = .returned (.bool false)∧Below w.heap.size w w'):=⟨h ▸ uH.c A c l.length l w rfl hr hc hok (by omega)⟩;clear hr hok h
 go_enter Tryz.func28,Tryz.ntmps28
 go_wp2_with (first|(go_at_call 53;(with_reducible refine agG.o.mono ?_);rintro e w1 ⟨rfl,hb⟩;have HB1:=Yu hb;clear hb))
 refine bW (gB rfl _ _ _) rfl ?_;exact⟨rfl,HB1.o⟩
noncomputable def Gi (l:List qJ):List Int × Int:=if uH l=true then (wB l,0) else ([],1)
theorem Gi.c (A:Option Addr)(c n:Nat)(l:List qJ)(eb:List Int)(ee:Int)(w:World)(hn:l.length=n)(hr:Kd.C yD w A n l)(hc:n≤c)(hok:KL l)(hl:n≤1000000)(hM:uH l=true→(wB l).length≤500000000)(hT:xZ w)(he:Gi l=(eb,ee)) :
 Calls Tryz.prog 28 #[.slice A n c] w fun e w'=>∃ v:Value,e = .returned (.tuple #[v,.int .i64 ee])∧Kd.R (Kd.int .u8) 5 w' w.heap.size (fun _=>True) v eb∧Below w.heap.size w w':=by
 unfold Gi at he;split at he
 ·rename_i h;cases he;exact wB.c A c n l w hn hr hc hok hl hM hT h
 ·rename_i h;cases he;refine (wB.bad A c n l w hn hr hc hok hl (by simpa using h)).mono ?_;rintro e w' ⟨rfl,hb⟩;exact⟨_,rfl,Kd.ug _ _ _ _ _,hb⟩
end Go.Proofs.Y.PA

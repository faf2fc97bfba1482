/- Of the law ZHQDumpReads. -/
import Derived.Test.YtcgbgifbajdhpaaGreatDoorZH28
import Derived.Test.YtcgbgifbajdhpaaGreatDoorZH29
set_option linter.unusedVariables false
set_option linter.unusedSimpArgs false
set_option maxHeartbeats 8000000
set_option maxRecDepth 100000
namespace Go.Proofs.Y.PA
open Go.RowKit Go.Proofs.Y.G Go.Proofs.YW.oO Go.Proofs.YW.pq Go.Proofs.YW.pz
theorem Xn (W:World)(g:Nat)(A1 A2 A3 A4 A5:Option Addr)(c1 c2 c3 c4 c5 n1 n2 n3 n4 n5:Nat)(l1 l2 l3 l4 l5:List Int)(t:Nat)(fr:Nat × Nat)(e1:l1.length=n1)(e2:l2.length=n2)(e3:l3.length=n3)(e4:l4.length=n4)(e5:l5.length=n5)(hb:W.heap[g]? = some (.cells #[.slice A1 n1 c1,.slice A2 n2 c2,.slice A3 n3 c3,.slice A4 n4 c4,.slice A5 n5 c5] t fr))
 (h1:Kd.C (Kd.int .u8) W A1 l1.length l1) (k1:l1.length≤c1) (h2:Kd.C (Kd.int .u8) W A2 l2.length l2) (k2:l2.length≤c2) (h3:Kd.C (Kd.int .u8) W A3 l3.length l3) (k3:l3.length≤c3) (h4:Kd.C (Kd.int .u8) W A4 l4.length l4) (k4:l4.length≤c4) (h5:Kd.C (Kd.int .u8) W A5 l5.length l5) (k5:l5.length≤c5) :
 Kd.C (Kd.slice 5 (Kd.int .u8)) W (some ⟨g,0,none⟩) 5 [l1,l2,l3,l4,l5]:=by
 subst e1 e2 e3 e4 e5;have key:∀ (j:Nat) (u:Value),#[Value.slice A1 l1.length c1,.slice A2 l2.length c2,.slice A3 l3.length c3,.slice A4 l4.length c4,.slice A5 l5.length c5][j]? = some u→W.cell? (Addr.add ⟨g,0,none⟩ j)=some u:=fun j u hu=>by
  rw[add_plain];exact (iN W g j _ t fr hb).trans hu
 have one:∀ (j:Nat) (u:Value),#[Value.slice A1 l1.length c1,.slice A2 l2.length c2,.slice A3 l3.length c3,.slice A4 l4.length c4,.slice A5 l5.length c5][j]? = some u→∀ i v,[u][i]? = some v→W.cell? (Addr.add ⟨g,0,none⟩ (j*1+i))=some v:=fun j u hu i v hv=>by
  match i,hv with
  | 0,hv=>
    injection hv with hv
    subst hv;rw[kM,iA];exact key j u hu
  | n+1,hv=>simp at hv
 refine⟨rfl,by decide,fun _=>⟨_,rfl,fun j p hj=>?_⟩⟩
 match j,hj with
 | 0,hj=>injection hj with hj;subst hj;exact⟨_,rfl,⟨A1,c1,rfl,k1,h1⟩,one 0 _ rfl⟩
 | 1,hj=>injection hj with hj;subst hj;exact⟨_,rfl,⟨A2,c2,rfl,k2,h2⟩,one 1 _ rfl⟩
 | 2,hj=>injection hj with hj;subst hj;exact⟨_,rfl,⟨A3,c3,rfl,k3,h3⟩,one 2 _ rfl⟩
 | 3,hj=>injection hj with hj;subst hj;exact⟨_,rfl,⟨A4,c4,rfl,k4,h4⟩,one 3 _ rfl⟩
 | 4,hj=>injection hj with hj;subst hj;exact⟨_,rfl,⟨A5,c5,rfl,k5,h5⟩,one 4 _ rfl⟩
 | n+5,hj=>simp at hj
theorem Iu (n i:Nat)(hn:n<18446744073709551616)(hi:i≤8)(W:World):Calls Tryz.prog 31 #[.int .u64 n,.int .i64 i] W fun e w'=>∃ v0_:Value,e = .returned v0_∧Kd.R (Kd.int .u8) 5 w' W.heap.size (fun _=>True) v0_ (rD n i)∧Below W.heap.size W w' :=
 uZ.c _ _ _ W (by rw[uZ.f,au (by omega),aG];congr 2;unfold wid;omega)
def Tz (B k n m:Nat):Nat→Value→World→Prop
 | 0,v,W=>Kd.R (Kd.int .u8) 5 W B (fun _=>True) v [208,215]
 | 1,v,W=>Kd.R (Kd.int .u8) 5 W B (fun _=>True) v [(k:Int)]
 | 2,v,W=>Kd.R (Kd.int .u8) 5 W B (fun _=>True) v (rD n 4)
 | _+3,v,W=>Kd.R (Kd.int .u8) 5 W B (fun _=>True) v (rD m 2)
theorem Oq {B k n m:Nat}:∀ (i:Nat) (v:Value) (W W':World),Tz B k n m i v W→Below W.heap.size W W'→Tz B k n m i v W'
 | 0,_,_,_,h,hb=>Kd.qo h hb
 | 1,_,_,_,h,hb=>Kd.qo h hb
 | 2,_,_,_,h,hb=>Kd.qo h hb
 | _+3,_,_,_,h,hb=>Kd.qo h hb
theorem Xp.c (k n m:Nat)(p:List Int)(A:Option Addr)(c:Nat)(w:World)(hk:k<256)(hn:n<4294967296)(hm:p.length=m)(hr:Kd.C (Kd.int .u8) w A m p)(hc:m≤c)(hl:m≤1000000)(hok:okB p=true)(hT:zZ w) :
 Calls Tryz.prog 64 #[.agg #[.int .i64 k,.int .i64 n,.slice A m c]] w fun e w'=>∃ v:Value,e = .returned v∧Kd.R (Kd.int .u8) 5 w' w.heap.size (fun _=>True) v (xH k n p)∧Below w.heap.size w w':=by
 have HM:=Y7 hm;have HR:=Y7 hr;have HT:=Y7 hT;have HOK:=Y7 hok;clear hr hok hT hm;have hku:IntKind.u8.wrap (k:Int)=(k:Int):=by simp[IntKind.wrap,IntKind.bits,IntKind.signed];omega
 have hnu:IntKind.u64.wrap (n:Int)=(n:Int):=by simp[IntKind.wrap,IntKind.bits,IntKind.signed];omega
 have hmu:IntKind.u64.wrap (m:Int)=(m:Int):=by simp[IntKind.wrap,IntKind.bits,IntKind.signed];omega
 go_enter Tryz.func64,Tryz.ntmps64
 go_wp2_with fail
 have HB0:=Y7 (oN (aU w.heap.size w) (.cells #[.int .i64 k,.int .i64 n,.slice A m c] 80 (0,0)));have HX0:=Y7 (qx w (.cells #[.int .i64 k,.int .i64 n,.slice A m c] 80 (0,0)));generalize w.alloc (.cells #[.int .i64 k,.int .i64 n,.slice A m c] 80)=w1 at *;have HC0:oM (∀ W',Below w1.heap.size w1 W'→W'.cell? ⟨w.heap.size,0,none⟩=some (.int .i64 k)):=⟨fun W' hb=>pW hb ((oQ HX0.o 0).trans rfl)⟩;have HC1:oM (∀ W',Below w1.heap.size w1 W'→W'.cell? ⟨w.heap.size,1,none⟩=some (.int .i64 n)):=⟨fun W' hb=>pW hb ((oQ HX0.o 1).trans rfl)⟩;have HC2:oM (∀ W',Below w1.heap.size w1 W'→W'.cell? ⟨w.heap.size,2,none⟩=some (.slice A m c)):=⟨fun W' hb=>pW hb ((oQ HX0.o 2).trans rfl)⟩;have HS:=Y7 (q9 (aU w1.heap.size w1));refine yU (by kernel_rfl) (qB.start (n:=18) (S:=fun W'=>Below w1.heap.size w1 W') (by decide) ?_);refine qB.take' (i:=1) (v:=?_) rfl rfl (by kernel_rfl) (fun _ _ _ h=>by cases h.1) (Or.inl ⟨by rfl,?_⟩) HS.o ?_
 rotate_left
 ·(intro W' hW';have c0:=HC0.o W' hW';have c1:=HC1.o W' hW';have c2:=HC2.o W' hW';go_simp;try (with_reducible rfl))
 try simp only[ah,ak,aj]
 refine qB.take' (i:=2) (v:=?_) rfl rfl (by kernel_rfl) (fun _ _ _ h=>by cases h.1) (Or.inl ⟨by rfl,?_⟩) HS.o ?_
 rotate_left
 ·(intro W' hW';have c0:=HC0.o W' hW';have c1:=HC1.o W' hW';have c2:=HC2.o W' hW';go_simp;try (with_reducible rfl))
 try simp only[ah,ak,aj]
 refine qB.take' (i:=3) (v:=?_) rfl rfl (by kernel_rfl) (fun _ _ _ h=>by cases h.1) (Or.inl ⟨by rfl,?_⟩) HS.o ?_
 rotate_left
 ·(intro W' hW';have c0:=HC0.o W' hW';have c1:=HC1.o W' hW';have c2:=HC2.o W' hW';go_simp;try (with_reducible rfl))
 try simp only[ah,ak,aj]
 refine qB.take' (i:=5) (v:=?_) rfl rfl (by kernel_rfl) (fun _ _ _ h=>by cases h.1) (Or.inl ⟨by rfl,?_⟩) HS.o ?_
 rotate_left
 ·(intro W' hW';have c0:=HC0.o W' hW';have c1:=HC1.o W' hW';have c2:=HC2.o W' hW';go_simp;try (with_reducible rfl))
 try simp only[ah,ak,aj]
 refine qB.take' (i:=6) (v:=?_) rfl rfl (by kernel_rfl) (fun _ _ _ h=>by cases h.1) (Or.inl ⟨by rfl,?_⟩) HS.o ?_
 rotate_left
 ·(intro W' hW';have c0:=HC0.o W' hW';have c1:=HC1.o W' hW';have c2:=HC2.o W' hW';go_simp;try (with_reducible rfl))
 try simp only[ah,ak,aj]
 refine qB.take' (i:=7) (v:=?_) rfl rfl (by kernel_rfl) (fun _ _ _ h=>by cases h.1) (Or.inl ⟨by rfl,?_⟩) HS.o ?_
 rotate_left
 ·(intro W' hW';have c0:=HC0.o W' hW';have c1:=HC1.o W' hW';have c2:=HC2.o W' hW';go_simp;try (with_reducible rfl))
 try simp only[ah,ak,aj]
 refine qB.take' (i:=9) (v:=?_) rfl rfl (by kernel_rfl) (fun _ _ _ h=>by cases h.1) (Or.inl ⟨by rfl,?_⟩) HS.o ?_
 rotate_left
 ·(intro W' hW';have c0:=HC0.o W' hW';have c1:=HC1.o W' hW';have c2:=HC2.o W' hW';go_simp;try (with_reducible rfl))
 try simp only[ah,ak,aj]
 refine qB.take' (i:=10) (v:=?_) rfl rfl (by kernel_rfl) (fun _ _ _ h=>by cases h.1) (Or.inl ⟨by rfl,?_⟩) HS.o ?_
 rotate_left
 ·(intro W' hW';have c0:=HC0.o W' hW';have c1:=HC1.o W' hW';have c2:=HC2.o W' hW';go_simp;try (with_reducible rfl))
 try simp only[ah,ak,aj]
 refine qB.take' (i:=11) (v:=?_) rfl rfl (by kernel_rfl) (fun _ _ _ h=>by cases h.1) (Or.inl ⟨by rfl,?_⟩) HS.o ?_
 rotate_left
 ·(intro W' hW';have c0:=HC0.o W' hW';have c1:=HC1.o W' hW';have c2:=HC2.o W' hW';go_simp;try (with_reducible rfl))
 try simp only[ah,ak,aj]
 refine qB.take' (i:=12) (v:=?_) rfl rfl (by kernel_rfl) (fun _ _ _ h=>by cases h.1) (Or.inl ⟨by rfl,?_⟩) HS.o ?_
 rotate_left
 ·(intro W' hW';have c0:=HC0.o W' hW';have c1:=HC1.o W' hW';have c2:=HC2.o W' hW';go_simp;try (with_reducible rfl))
 try simp only[ah,ak,aj]
 refine qB.take' (i:=14) (v:=?_) rfl rfl (by kernel_rfl) (fun _ _ _ h=>by cases h.1) (Or.inl ⟨by rfl,?_⟩) HS.o ?_
 rotate_left
 ·(intro W' hW';have c0:=HC0.o W' hW';have c1:=HC1.o W' hW';have c2:=HC2.o W' hW';go_simp;try (with_reducible rfl))
 try simp only[ah,ak,aj]
 refine qB.take' (i:=15) (v:=?_) rfl rfl (by kernel_rfl) (fun _ _ _ h=>by cases h.1) (Or.inl ⟨by rfl,?_⟩) HS.o ?_
 rotate_left
 ·(intro W' hW';have c0:=HC0.o W' hW';have c1:=HC1.o W' hW';have c2:=HC2.o W' hW';go_simp;try (with_reducible rfl))
 try simp only[ah,ak,aj]
 refine qB.many (f:=2) [0,4,8,13] [4,8,12,17] (Tz w1.heap.size k n m) Oq (by kernel_rfl) rfl (by decide) HS.o (fun _ _ h hb=>oP h hb) ?many ?rest
 case many=>
  intro j i d o h1 h2 h3;rcases j with _ | _ | _ | _ | j
  ·cases h1;cases h2;cases h3;refine⟨rfl,fun y W' hW'=>?_⟩;simp only[vN,ah,ak,aj];go_simp
   refine (vD.c [208,215] W' rfl).mono ?_;rintro e w2 ⟨v2,rfl,hr2,hb2⟩;exact⟨Kd.qW hr2 hW'.size,hb2⟩
  ·cases h1;cases h2;cases h3;refine⟨rfl,fun y W' hW'=>?_⟩;simp only[vN,ah,ak,aj];go_simp
   exact⟨Kd.y8 (K4 W' w1.heap.size 5 .u8 [(k:Int)] hW'.size (by simp)) (fun _ _=>bE),oN (aU _ _) _⟩
  ·cases h1;cases h2;cases h3;refine⟨rfl,fun y W' hW'=>?_⟩;simp only[vN,ah,ak,aj];go_simp
   refine (Iu n 4 (by omega) (by decide) W').mono ?_;rintro e w2 ⟨v2,rfl,hr2,hb2⟩;exact⟨Kd.qW hr2 hW'.size,hb2⟩
  ·cases h1;cases h2;cases h3;refine⟨rfl,fun y W' hW'=>?_⟩;simp only[vN,ah,ak,aj];go_simp
   refine (Iu m 2 (by omega) (by decide) W').mono ?_;rintro e w2 ⟨v2,rfl,hr2,hb2⟩;exact⟨Kd.qW hr2 hW'.size,hb2⟩
  ·simp at h1
 case rest=>
  intro y W2 hW2 hΦ;have r0:=hΦ 0 (by decide);have r1:=hΦ 1 (by decide);have r2:=hΦ 2 (by decide);have r3:=hΦ 3 (by decide);simp only[vN,ah,ak,aj];clear hΦ;generalize y 0=v0 at *;generalize y (0+1)=v1 at *;generalize y (0+1+1)=v2 at *;generalize y (0+1+1+1)=v3 at *;obtain⟨a0,c0,rfl⟩:=Kd.rV r0 (by decide);obtain⟨a1,c1,rfl⟩:=Kd.rV r1 (by simp);obtain⟨a2,c2,rfl⟩:=Kd.rV r2 (by rw[pY];decide);obtain⟨a3,c3,rfl⟩:=Kd.rV r3 (by rw[pY];decide);have R0:=Y7 (show Kd.R (Kd.int .u8) 5 W2 _ (fun _=>True) _ [208,215] from r0);have R1:=Y7 (show Kd.R (Kd.int .u8) 5 W2 _ (fun _=>True) _ [(k:Int)] from r1);have R2:=Y7 (show Kd.R (Kd.int .u8) 5 W2 _ (fun _=>True) _ (rD n 4) from r2);have R3:=Y7 (show Kd.R (Kd.int .u8) 5 W2 _ (fun _=>True) _ (rD m 2) from r3);have HP:=Y7 (Kd.o9 HR.o (HB0.o.trans (hW2.mono HB0.o.size)));clear r0 r1 r2 r3;refine qB.one (i:=16) rfl (by kernel_rfl) (by rfl) (fun K1 hK1=>?_);go_simp
  obtain⟨oS,hoS⟩:∃ oS:Obj,Obj.cells #[.slice (some a0) 2 c0,.slice (some a1) 1 c1,.slice (some a2) (rD n 4).length c2,.slice (some a3) (rD m 2).length c3,.slice A m c] 24 (0,0)=oS:=⟨_,rfl⟩;have HB3:=Y7 (oN hW2 oS);have agL:=Y7 (oN (aU W2.heap.size W2) oS);have HN:=Y7 (qx W2 oS);rw[hoS];refine hK1 _ _ HB3.o ?_;subst hoS;clear hK1;generalize (W2.alloc (.cells #[.slice (some a0) 2 c0,.slice (some a1) 1 c1,.slice (some a2) (rD n 4).length c2,.slice (some a3) (rD m 2).length c3,.slice A m c] 24 (0,0)))=W3 at *;have q0:=Kd.pE (Kd.qo R0.o agL.o);have q1:=Kd.pE (Kd.qo R1.o agL.o);have q2:=Kd.pE (Kd.qo R2.o agL.o);have q3:=Kd.pE (Kd.qo R3.o agL.o);have q4:=Kd.o9 HP.o agL.o;have CON:=Y7 (PL.c (some ⟨W2.heap.size,0,none⟩) 5 5 [[208,215],[(k:Int)],rD n 4,rD m 2,p] W3 rfl
   (Xn W3 W2.heap.size (some a0) (some a1) (some a2) (some a3) A c0 c1 c2 c3 c 2 1 _ _ m [208,215] [(k:Int)] (rD n 4) (rD m 2) p _ _ rfl rfl rfl rfl HM.o HN.o q0.2.2 q0.2.1 q1.2.2 q1.2.1 q2.2.2 q2.2.1 q3.2.2 q3.2.1 (by rw[HM.o];exact q4) (by rw[HM.o];exact hc)) (by decide) (by
    simp only[fC,lV,aT,eF,pY,bq];have:=HM.o;omega))
  clear q0 q1 q2 q3 q4;refine qB.one (i:=17) rfl (by kernel_rfl) (by rfl) (fun K2 hK2=>?_);go_simp
  refine CON.o.mono ?_;rintro e W4 ⟨v4,rfl,hr4,hb4⟩;have hfl:[[208,215],[(k:Int)],rD n 4,rD m 2,p].flatten=DW k n p:=by
   simp only[fC,lV,dZ,DW,HM.o,bC,iC,cB]
  rw[hfl] at hr4;obtain⟨a4,c4,rfl⟩:=Kd.rV hr4 (by rw[Gu];omega);have HB4:=Y7 (oP HB3.o hb4);have HR4:=Y7 hr4;clear hr4 hb4;refine hK2 _ _ HB4.o ?_;clear hK2;refine qB.last rfl (by kernel_rfl) (by rfl) (fun K3 hK3=>?_);go_simp
  refine hK3 _ _ ⟨rfl,?_⟩;clear hK3;have HFO:oM (okB (DW k n p)=true):=⟨KI hk HOK.o⟩;have HFL:oM ((DW k n p).length=9+m):=⟨by rw[Gu,HM.o]⟩;have HCL:oM (Dn (DW k n p)<4294967296):=⟨Gs HFO.o⟩;have SUM:=Y7 (wG.qM (some a4) c4 (DW k n p) (Dn (DW k n p)) W4 rfl (Kd.pE HR4.o).2.2 (Kd.pE HR4.o).2.1 (HT.o.below (HB0.o.trans (HB4.o.mono HB0.o.size))) (by rw[wG.f,au HFO.o];rfl));generalize hS:Dn (DW k n p)=s at *;have HSE:=Y7 hS;have hcl:=HCL.o;have hsu:IntKind.u64.wrap (s:Int)=(s:Int):=by simp[IntKind.wrap,IntKind.bits,IntKind.signed];omega
  generalize hF:DW k n p=F at *;have HFE:=Y7 hF;clear hS hF CON
  go_wp2_with (first|(go_at_call 96;(with_reducible refine SUM.o.mono ?_);rintro e w5 ⟨rfl,hb⟩;have HB5:=Y7 (oP (HB0.o.trans (HB4.o.mono HB0.o.size)) hb.below);have HR5:=Y7 (Kd.qo HR4.o hb.below);clear hb)|(go_at_call 31;(refine (Iu s 4 (by omega) (by decide) _).mono ?_);rintro e w6 ⟨v6,rfl,hr6,hb6⟩;obtain⟨a6,c6,rfl⟩:=Kd.rV hr6 (by rw[pY];decide);have HB6:=Y7 (oP HB5.o hb6);have amS:=Y7 (Kd.qW (Kd.qo HR5.o hb6) (bY HB0.o.size HB3.o.size));have HR6:=Y7 (Kd.pE hr6).2.2;clear hr6 hb6)|((with_reducible refine qm (N:=27) rfl ?_);go_must (refine Kd.sD (Kd.int .u8) (Rr:=(Kd.int .u8).K w6) (w0:=w) w.heap.size rfl (.tmp 22) (.tmp 26) 24 5 (.int .u8 0) 1 rfl Tryz.underlying24 rW rfl (by decide) (by decide) (.slice (some a4) F.length c4) F (rD s 4) (some a6) (rD s 4).length c6 (fun _=>True) (fun _=>False) rfl rfl amS.o HR6.o (fun _ _ h=>h) (fun _ h=>h.elim) (fun _ _=>bE) HB6.o HB6.o.size ?h6 ?_);(case h6=>(rw[pY,HFL.o];omega));intro v7 w7 hr7 hb7 hg7 agK;obtain⟨A7,c7,hv7⟩:=Kd.pO hr7;rw[aT] at hv7;subst hv7;have HR7:=Y7 hr7;have HB7:=Y7 hb7;clear hr7 hb7 hg7 agK))
  go_ret;exact⟨_,rfl,by rw[xH,HFE.o,HSE.o];exact HR7.o,HB7.o⟩
def WU (W:World)(g:Nat)(v:Value)(q:Int):Prop:=W.heap[g]? = some (.cells #[v,.int .i64 q] 62 (0,0))
def WS (g:Nat)(v:Value)(q:Int)(W:World):Prop:=W.cell? ⟨g,0,none⟩=some v∧W.cell? ⟨g,1,none⟩=some (.int .i64 q)
theorem Lu.c (g k q m:Nat)(b p:List Int)(v:Value)(A:Option Addr)(c base:Nat)(w0 w:World)(hk:k<256)(hq:q<4294967295)(hm:p.length=m)(hr:Kd.C (Kd.int .u8) w A m p)(hc:m≤c)(hl:m≤1000000)(hok:okB p=true)(hT:zZ w)
 (hW:WU w g v q) (hv:Kd.R (Kd.int .u8) 5 w base (fun _=>True) v b) (hbl:b.length≤1000000000) (hB:Below base w0 w) (hbase:base≤g) :
 Calls Tryz.prog 30 #[.pointer (some ⟨g,0,none⟩),.int .i64 k,.slice A m c] w fun e w'=>e = .returned (.tuple #[])∧∃ v':Value,WU w' g v' ((q+1:Nat):Int)∧Kd.R (Kd.int .u8) 5 w' base (fun _=>True) v' (b++xH k q p)∧Below base w0 w'∧pG w w' g v.ownBlock∧(v'.ownBlock=v.ownBlock∨∃ x,v'.ownBlock=some x∧w.heap.size≤x):=by
 have HM:=Y7 hm;have HR:=Y7 hr;have HT:=Y7 hT;have HOK:=Y7 hok;have HW:=Y7 hW;have HV:=Y7 hv;have HB:=Y7 hB;have HC:=Y7 hc;have hgl:g<w.heap.size:=qQ hW;obtain⟨A1,c1,rfl⟩:=Kd.pO hv;have HNE:=Y7 (Kd.DZ hv hW (by decide));clear hr hok hT hm hW hv hB hc
 go_enter Tryz.func30,Tryz.ntmps30
 go_wp2_with fail
 have HS:oM (WS g (.slice A1 b.length c1) q w.drew):=⟨(oQ HW.o 0).trans rfl,(oQ HW.o 1).trans rfl⟩;refine yU (by kernel_rfl) (qB.start (n:=16) (S:=WS g (.slice A1 b.length c1) q) (by decide) ?_);refine qB.take' (i:=0) (v:=?_) rfl rfl (by kernel_rfl) (fun _ _ _ h=>by cases h.1) (Or.inl ⟨by rfl,?_⟩) HS.o ?_
 rotate_left
 ·(intro W' hW';have c0:=hW'.1;have c1:=hW'.2;go_simp;try (with_reducible rfl))
 try simp only[ah,ak,aj]
 refine qB.take' (i:=1) (v:=?_) rfl rfl (by kernel_rfl) (fun _ _ _ h=>by cases h.1) (Or.inl ⟨by rfl,?_⟩) HS.o ?_
 rotate_left
 ·(intro W' hW';have c0:=hW'.1;have c1:=hW'.2;go_simp;try (with_reducible rfl))
 try simp only[ah,ak,aj]
 refine qB.take' (i:=2) (v:=?_) rfl rfl (by kernel_rfl) (fun _ _ _ h=>by cases h.1) (Or.inl ⟨by rfl,?_⟩) HS.o ?_
 rotate_left
 ·(intro W' hW';have c0:=hW'.1;have c1:=hW'.2;go_simp;try (with_reducible rfl))
 try simp only[ah,ak,aj]
 refine qB.take' (i:=3) (v:=?_) rfl rfl (by kernel_rfl) (fun _ _ _ h=>by cases h.1) (Or.inl ⟨by rfl,?_⟩) HS.o ?_
 rotate_left
 ·(intro W' hW';have c0:=hW'.1;have c1:=hW'.2;go_simp;try (with_reducible rfl))
 try simp only[ah,ak,aj]
 refine qB.take' (i:=4) (v:=?_) rfl rfl (by kernel_rfl) (fun _ _ _ h=>by cases h.1) (Or.inl ⟨by rfl,?_⟩) HS.o ?_
 rotate_left
 ·(intro W' hW';have c0:=hW'.1;have c1:=hW'.2;go_simp;try (with_reducible rfl))
 try simp only[ah,ak,aj]
 refine qB.take' (i:=5) (v:=?_) rfl rfl (by kernel_rfl) (fun _ _ _ h=>by cases h.1) (Or.inl ⟨by rfl,?_⟩) HS.o ?_
 rotate_left
 ·(intro W' hW';have c0:=hW'.1;have c1:=hW'.2;go_simp;try (with_reducible rfl))
 try simp only[ah,ak,aj]
 refine qB.take' (i:=6) (v:=?_) rfl rfl (by kernel_rfl) (fun _ _ _ h=>by cases h.1) (Or.inl ⟨by rfl,?_⟩) HS.o ?_
 rotate_left
 ·(intro W' hW';have c0:=hW'.1;have c1:=hW'.2;go_simp;try (with_reducible rfl))
 try simp only[ah,ak,aj]
 refine qB.take' (i:=7) (v:=?_) rfl rfl (by kernel_rfl) (fun _ _ _ h=>by cases h.1) (Or.inl ⟨by rfl,?_⟩) HS.o ?_
 rotate_left
 ·(intro W' hW';have c0:=hW'.1;have c1:=hW'.2;go_simp;try (with_reducible rfl))
 try simp only[ah,ak,aj]
 refine qB.take' (i:=8) (v:=?_) rfl rfl (by kernel_rfl) (fun _ _ _ h=>by cases h.1) (Or.inl ⟨by rfl,?_⟩) HS.o ?_
 rotate_left
 ·(intro W' hW';have c0:=hW'.1;have c1:=hW'.2;go_simp;try (with_reducible rfl))
 try simp only[ah,ak,aj]
 refine qB.take' (i:=9) (v:=?_) rfl rfl (by kernel_rfl) (fun _ _ _ h=>by cases h.1) (Or.inl ⟨by rfl,?_⟩) HS.o ?_
 rotate_left
 ·(intro W' hW';have c0:=hW'.1;have c1:=hW'.2;go_simp;try (with_reducible rfl))
 try simp only[ah,ak,aj]
 refine qB.take' (i:=10) (v:=?_) rfl rfl (by kernel_rfl) (fun _ _ _ h=>by cases h.1) (Or.inl ⟨by rfl,?_⟩) HS.o ?_
 rotate_left
 ·(intro W' hW';have c0:=hW'.1;have c1:=hW'.2;go_simp;try (with_reducible rfl))
 try simp only[ah,ak,aj]
 refine qB.take' (i:=11) (v:=?_) rfl rfl (by kernel_rfl) (fun _ _ _ h=>by cases h.1) (Or.inl ⟨by rfl,?_⟩) HS.o ?_
 rotate_left
 ·(intro W' hW';have c0:=hW'.1;have c1:=hW'.2;go_simp;try (with_reducible rfl))
 try simp only[ah,ak,aj]
 have FB:=Y7 (Xp.c k q m p A c w.drew hk (by omega) HM.o (Kd.o9 HR.o (q9 (aU _ _))) HC.o hl HOK.o (HT.o.below (q9 (aU _ _))));refine qB.one (i:=12) rfl (by kernel_rfl) (by rfl) (fun K1 hK1=>?_);go_simp
 refine FB.o.mono ?_;rintro e w1 ⟨v1,rfl,hr1,hb1⟩;have HB1:=Y7 (oP (q9 (aU w.heap.size w)) hb1);have HL1:oM ((xH k q p).length=13+m):=⟨by rw[wX,HM.o]⟩;obtain⟨a1,d1,rfl⟩:=Kd.rV hr1 (by rw[HL1.o];omega);have HR1:=Y7 (Kd.pE hr1);have HW1:=Y7 (show WU w1 g (.slice A1 b.length c1) q from o7 HW.o HB1.o);have HS1:oM (WS g (.slice A1 b.length c1) q w1):=⟨(oQ HW1.o 0).trans rfl,(oQ HW1.o 1).trans rfl⟩;have afr:=Y7 (HB.o.trans (HB1.o.mono (by omega)));refine hK1 _ _ HS1.o ?_;clear hK1 hr1 hb1 FB;generalize hF:xH k q p=F at *;refine qB.one (i:=13) rfl (by kernel_rfl) (by rfl) (fun K2 hK2=>?_);refine Uc (c:=Region.wanted _ _=true) (by rfl) (Kd.qI (ops := #[]) (Kd.int .u8) (Rr:=(Kd.int .u8).K w1) (w0:=w0) base (by rfl) (.tmp 10) (.tmp 18) 24 5 (.int .u8 0) 1 rfl Tryz.underlying24 rW rfl (by decide) (by decide) (.slice A1 b.length c1) b F (some a1) F.length d1 (fun _=>True) (fun _=>False) rfl rfl (Kd.qo HV.o HB1.o) HR1.o.2.2 (fun _ _ h=>h) (fun _ hk=>hk.elim) (fun _ _=>bE) afr.o (by have:=HB1.o.size;omega) (by rw[HL1.o];omega) ?ap)
 case ap=>
  intro v2 w2 hr2 hb2 hg2 agu;have HW2:=Y7 (show WU w2 g (.slice A1 b.length c1) q from qK HW1.o hg2 HNE.o);have HS2:oM (WS g (.slice A1 b.length c1) q w2):=⟨(oQ HW2.o 0).trans rfl,(oQ HW2.o 1).trans rfl⟩;have HR2:=Y7 hr2;have HB2:=Y7 hb2;have HK2:oM (pG w w2 g (Value.slice A1 b.length c1).ownBlock):=⟨(pG.of_below HB1.o g _).trans (pG.M5 hg2 g) (.inl rfl)⟩;have HAT:oM (v2.ownBlock=(Value.slice A1 b.length c1).ownBlock∨∃ x,v2.ownBlock=some x∧w.heap.size≤x):=⟨by
   rcases agu with h | ⟨x,h,h2⟩
   ·exact .inl h
   ·exact .inr ⟨x,h,bY HB1.o.size h2⟩⟩
  obtain⟨A2,c2,hv2⟩:=Kd.pO hr2;rw[aT] at hv2;subst hv2;refine hK2 _ _ HS2.o ?_;clear hr2 hb2 hg2 agu hK2;simp only[Act.put,ah,ak,aj];refine qB.take' (i:=14) (v:=?_) rfl rfl (by kernel_rfl) (fun _ _ _ h=>by cases h.1) (Or.inl ⟨by rfl,?_⟩) HS2.o ?_
  rotate_left
  ·(intro W' hW';have c0:=hW'.1;have c1:=hW'.2;go_simp;try (with_reducible rfl))
  try simp only[ah,ak,aj]
  refine qB.take' (i:=15) (v:=?_) rfl rfl (by kernel_rfl) (fun _ _ _ h=>by cases h.1) (Or.inl ⟨by rfl,?_⟩) HS2.o ?_
  rotate_left
  ·(intro W' hW';have c0:=hW'.1;have c1:=hW'.2;go_simp;try (with_reducible rfl))
  try simp only[ah,ak,aj]
  refine qB.last rfl (by kernel_rfl) (by rfl) (fun K3 hK3=>?_);have b0:=HS2.o.1;have f0:=oW HW2.o 0;go_simp
  refine hK3 _ _ ⟨rfl,?_⟩;clear b0 f0;have HW3:oM (WU (w2.setCell ⟨g,0,none⟩ (.slice A2 (b.length+F.length) c2)) g (.slice A2 (b.length+F.length) c2) q):=⟨qF HW2.o 0 _ rfl⟩;have HB3:oM (Below base w0 (w2.setCell ⟨g,0,none⟩ (.slice A2 (b.length+F.length) c2))):=⟨HB2.o.setCell (p:=⟨g,0,none⟩) hbase _⟩;have HK3:=Y7 (HK2.o.sG 0 (.slice A2 (b.length+F.length) c2));have ako:=Y7 (Kd.DZ HR2.o HW2.o (by decide));have HR3:=Y7 (Kd.sS (Kd.BZ rfl HR2.o) (p:=⟨g,0,none⟩) (fun k hk e=>ako.o (by have e':k=g:=e;rw[← e'];exact hk)) (.slice A2 (b.length+F.length) c2));generalize w2.setCell ⟨g,0,none⟩ (.slice A2 (b.length+F.length) c2)=w3 at *;have b1:=(oQ HW3.o 1).trans rfl;have f1:=oW HW3.o 1;have hqq:IntKind.i64.wrap ((q:Int)+1)=((q+1:Nat):Int):=by rw[bD];omega
  go_wp2_with fail
  refine fF (dQ rfl _ _ _) rfl ?_;refine⟨rfl,_,?_,Kd.qR (Kd.sS HR3.o (p:=⟨g,1,none⟩) (fun k hk e=>ako.o (by have e':k=g:=e;rw[← e'];exact hk)) _) (fun _ _=>bE),HB3.o.setCell (p:=⟨g,1,none⟩) hbase _,HK3.o.sG 1 _,HAT.o⟩;exact qF HW3.o 1 _ (by rfl)
def zP:Pt:=⟨0,⟨[],[]⟩⟩
def kP:Kd Pt:=Kd.Yj (Kd.pair (Kd.int .i64) (Kd.pair (Kd.slice 68 xU) (Kd.slice 70 vX))) (fun x:Pt=>((x.num:Int),x.ser.f0,x.ser.f1))
theorem KU {w:World}{x:Pt}{cs:List Value}(h:kP.K w x cs):∃ A0 c0 A1 c1,cs=[.int .i64 x.num,.slice A0 x.ser.f0.length c0,.slice A1 x.ser.f1.length c1]∧x.ser.f0.length≤c0∧xU.C w A0 x.ser.f0.length x.ser.f0∧x.ser.f1.length≤c1∧vX.C w A1 x.ser.f1.length x.ser.f1:=by
 obtain⟨_,_,rfl,rfl,⟨_,_,rfl,⟨A0,c0,rfl,l0,g0⟩,⟨A1,c1,rfl,l1,g1⟩⟩⟩:=h;exact⟨A0,c0,A1,c1,rfl,l0,g0,l1,g1⟩
theorem Ym (w:World)(x:Pt){A0 A1:Option Addr}{c0 c1:Nat}(l0:x.ser.f0.length≤c0)(g0:xU.C w A0 x.ser.f0.length x.ser.f0)(l1:x.ser.f1.length≤c1)(g1:vX.C w A1 x.ser.f1.length x.ser.f1):kP.K w x [.int .i64 x.num,.slice A0 x.ser.f0.length c0,.slice A1 x.ser.f1.length c1]:=
 ⟨[.int .i64 x.num],_,rfl,rfl,⟨[.slice A0 x.ser.f0.length c0],_,rfl,⟨A0,c0,rfl,l0,g0⟩,⟨A1,c1,rfl,l1,g1⟩⟩⟩
theorem Xy (W:World)(ok:Nat→Prop)(x:Pt){A0 A1:Option Addr}{c0 c1:Nat}(l0:x.ser.f0.length≤c0)(g0:Kd.F xU W ok A0 x.ser.f0.length x.ser.f0)(l1:x.ser.f1.length≤c1)(g1:Kd.F vX W ok A1 x.ser.f1.length x.ser.f1):Kd.FK kP W ok x [.int .i64 x.num,.slice A0 x.ser.f0.length c0,.slice A1 x.ser.f1.length c1]:=fun W2 hW=>Ym W2 x l0 (g0 W2 hW) l1 (g1 W2 hW)
theorem Xr:(Tryz.prog.info? 123).map (fun i=>(i.zero,i.size,i.bytes))=some (some (.agg #[.int .i64 0,.slice none 0 0,.slice none 0 0]),3,56):=by kernel_rfl
def CU (W:World)(p:Nat)(v:Value):Prop:=W.heap[p]? = some (.cells #[v] 120 (0,0))
def TS (p:Nat)(v:Value)(g:Nat)(q:Int)(h:Nat)(x0 x1:Value)(W:World):Prop:=W.cell? ⟨p,0,none⟩=some v∧W.cell? ⟨g,1,none⟩=some (.int .i64 q)∧W.cell? ⟨h,0,none⟩=some x0∧W.cell? ⟨h,1,none⟩=some x1
theorem take.c (p m:Nat)(f:Fr)(v:Value)(out:List Pt)(A:Option Addr)(c base:Nat)(w0 w:World)(hm:f.pay.length=m)(hr:Kd.C (Kd.int .u8) w A m f.pay)(hc:m≤c)(hl:m≤1000)(hok:okB f.pay=true)(hT:yN w)
 (hW:CU w p v) (hv:Kd.N kP 123 w base (fun k=>p<k) v out) (hol:out.length≤1000000000) (hB:Below base w0 w) (hbase:base≤p) :
 Calls Tryz.prog 74 #[.pointer (some ⟨p,0,none⟩),.agg #[.int .i64 f.kind,.int .i64 f.num,.slice A m c]] w fun e w'=>e = .returned (.tuple #[])∧∃ v':Value,CU w' p v'∧Kd.N kP 123 w' base (fun k=>p<k) v' (out++(uO f).toList)∧Below base w0 w':=by
 have HW:=Y7 hW;have HV:=Y7 hv;have HB:=Y7 hB;have hpl:p<w.heap.size:=qQ hW;have HF:=Y7 (qx w (.cells #[.int .i64 f.kind,.int .i64 f.num,.slice A m c] 80 (0,0)));have HBA:=Y7 (oN (aU w.heap.size w) (.cells #[.int .i64 f.kind,.int .i64 f.num,.slice A m c] 80 (0,0)));have hse:=fun W (hb:Below w.heap.size w W)=>series.c f A c m W hm (Kd.o9 hr hb) hc hok hl (hT.below hb)
 cases hp:uO f with
 | none=>
   have SE:oM (∀ W,Below w.heap.size w W→Calls Tryz.prog 112 #[.agg #[.int .i64 f.kind,.int .i64 f.num,.slice A m c]] W fun e w'=>∃ (A1 A2:Option Addr) (n1 c1 n2 c2:Nat),e = .returned (.tuple #[.agg #[.slice A1 n1 c1,.slice A2 n2 c2],.bool false])∧Below W.heap.size W w'):=⟨fun W hb=>(hse W hb).mono fun e w' ⟨A1,A2,n1,c1,n2,c2,ok,he,hb2,h⟩=>by
    rcases h with ⟨rfl,_⟩ | ⟨_,s,h,_⟩
    ·exact⟨A1,A2,n1,c1,n2,c2,he,hb2⟩
    ·rw[hp] at h;cases h⟩
   clear hse hr hok hT hW hv hB hp
   go_enter Tryz.func74,Tryz.ntmps74
   go_wp2_with (go_at_call 112;(with_reducible refine (SE.o _ HBA.o).mono ?_);rintro e w1 ⟨A1,A2,n1,c1,n2,c2,rfl,hb⟩;have HB1:=Y7 (oP HBA.o hb);clear hb)
   refine fF (dQ rfl _ _ _) rfl ?_;have HB2:=Y7 (oN HB1.o (.cells #[.slice A1 n1 c1,.slice A2 n2 c2] 51 (0,0)));exact⟨rfl,v,o7 HW.o HB2.o,by rw[Option.toList_none,dZ];exact Kd.wV HV.o HB2.o,HB.o.trans (HB2.o.mono (by omega))⟩
 | some q=>
   obtain⟨num,s0⟩:=q;have amT:num=f.num:=by
    unfold uO at hp;split at hp
    ·obtain⟨s,_,h⟩:=Option.map_eq_some_iff.1 hp;cases h;rfl
    ·cases hp
   subst amT;have SE:oM (∀ W,Below w.heap.size w W→Calls Tryz.prog 112 #[.agg #[.int .i64 f.kind,.int .i64 f.num,.slice A m c]] W fun e w'=>∃ (A1 A2:Option Addr) (c1 c2:Nat),e = .returned (.tuple #[.agg #[.slice A1 s0.f0.length c1,.slice A2 s0.f1.length c2],.bool true])∧Below W.heap.size W w'∧Kd.R xU 68 w' W.heap.size (fun _=>True) (.slice A1 s0.f0.length c1) s0.f0∧Kd.R vX 70 w' W.heap.size (fun _=>True) (.slice A2 s0.f1.length c2) s0.f1):=⟨fun W hb=>(hse W hb).mono fun e w' ⟨A1,A2,n1,c1,n2,c2,ok,he,hb2,h⟩=>by
    rcases h with ⟨_,h⟩ | ⟨rfl,s,h,_,_,h1,h2⟩
    ·rw[hp] at h;cases h
    ·rw[hp] at h;cases h;obtain⟨_,_,e1⟩:=Kd.pO h1;obtain⟨_,_,e2⟩:=Kd.pO h2;cases e1;cases e2;exact⟨A1,A2,c1,c2,he,hb2,h1,h2⟩⟩
   clear hse hr hok hT hW hv hB hp
   go_enter Tryz.func74,Tryz.ntmps74
   go_wp2_with (go_at_call 112;(with_reducible refine (SE.o _ HBA.o).mono ?_);rintro e w1 ⟨A1,A2,c1,c2,rfl,hb,h1,h2⟩;have HB1:=Y7 (oP HBA.o hb);have HS1:=Y7 h1;have HS2:=Y7 h2;have HF1:=Y7 (o7 HF.o hb);have HZ1:oM (w.heap.size+1≤w1.heap.size):=⟨by have:=hb.size;rw[bW] at this;exact this⟩;clear hb h1 h2)
   have HB2:=Y7 (oN HB1.o (.cells #[.slice A1 s0.f0.length c1,.slice A2 s0.f1.length c2] 51 (0,0)));have HWp:oM (CU (w1.alloc (.cells #[.slice A1 s0.f0.length c1,.slice A2 s0.f1.length c2] 51 (0,0))) p v):=⟨o7 HW.o HB2.o⟩;have HFb:=Y7 (pK HF1.o (.cells #[.slice A1 s0.f0.length c1,.slice A2 s0.f1.length c2] 51 (0,0)));have HSb:=Y7 (qx w1 (.cells #[.slice A1 s0.f0.length c1,.slice A2 s0.f1.length c2] 51 (0,0)));have HR1:=Y7 (Kd.sJ HS1.o (.cells #[.slice A1 s0.f0.length c1,.slice A2 s0.f1.length c2] 51 (0,0)));have HR2:=Y7 (Kd.sJ HS2.o (.cells #[.slice A1 s0.f0.length c1,.slice A2 s0.f1.length c2] 51 (0,0)));have HV2:=Y7 (Kd.wV HV.o HB2.o);have af6:=Y7 (HB.o.trans (HB2.o.mono (show base≤w.heap.size by omega)));have HVL:=Y7 (Kd.Vj HV.o);have hs2:oM ((w1.alloc (.cells #[.slice A1 s0.f0.length c1,.slice A2 s0.f1.length c2] 51 (0,0))).heap.size=w1.heap.size+1):=⟨bW ..⟩;generalize w1.alloc (.cells #[.slice A1 s0.f0.length c1,.slice A2 s0.f1.length c2] 51 (0,0))=W1 at *;have HS:oM (TS p v w.heap.size f.num w1.heap.size (.slice A1 s0.f0.length c1) (.slice A2 s0.f1.length c2) W1.drew):=⟨(oQ HWp.o 0).trans rfl,(oQ HFb.o 1).trans rfl,(oQ HSb.o 0).trans rfl,(oQ HSb.o 1).trans rfl⟩;clear HF HF1 HB1 HS1 HS2 SE HBA;refine yU (by kernel_rfl) (qB.start (n:=13) (S:=TS p v w.heap.size f.num w1.heap.size (.slice A1 s0.f0.length c1) (.slice A2 s0.f1.length c2)) (by decide) ?_);refine qB.take' (i:=0) (v:=?_) rfl rfl (by kernel_rfl) (fun _ _ _ h=>by cases h.1) (Or.inl ⟨by rfl,?_⟩) HS.o ?_
   rotate_left
   ·(intro W' hW';have c0:=hW'.1;have c1:=hW'.2.1;have c2:=hW'.2.2.1;have c3:=hW'.2.2.2;go_simp;try (with_reducible rfl))
   try simp only[ah,ak,aj]
   refine qB.take' (i:=1) (v:=?_) rfl rfl (by kernel_rfl) (fun _ _ _ h=>by cases h.1) (Or.inl ⟨by rfl,?_⟩) HS.o ?_
   rotate_left
   ·(intro W' hW';have c0:=hW'.1;have c1:=hW'.2.1;have c2:=hW'.2.2.1;have c3:=hW'.2.2.2;go_simp;try (with_reducible rfl))
   try simp only[ah,ak,aj]
   refine qB.take' (i:=2) (v:=?_) rfl rfl (by kernel_rfl) (fun _ _ _ h=>by cases h.1) (Or.inl ⟨by rfl,?_⟩) HS.o ?_
   rotate_left
   ·(intro W' hW';have c0:=hW'.1;have c1:=hW'.2.1;have c2:=hW'.2.2.1;have c3:=hW'.2.2.2;go_simp;try (with_reducible rfl))
   try simp only[ah,ak,aj]
   refine qB.take' (i:=3) (v:=?_) rfl rfl (by kernel_rfl) (fun _ _ _ h=>by cases h.1) (Or.inl ⟨by rfl,?_⟩) HS.o ?_
   rotate_left
   ·(intro W' hW';have c0:=hW'.1;have c1:=hW'.2.1;have c2:=hW'.2.2.1;have c3:=hW'.2.2.2;go_simp;try (with_reducible rfl))
   try simp only[ah,ak,aj]
   refine qB.take' (i:=4) (v:=?_) rfl rfl (by kernel_rfl) (fun _ _ _ h=>by cases h.1) (Or.inl ⟨by rfl,?_⟩) HS.o ?_
   rotate_left
   ·(intro W' hW';have c0:=hW'.1;have c1:=hW'.2.1;have c2:=hW'.2.2.1;have c3:=hW'.2.2.2;go_simp;try (with_reducible rfl))
   try simp only[ah,ak,aj]
   refine qB.take' (i:=5) (v:=?_) rfl rfl (by kernel_rfl) (fun _ _ _ h=>by cases h.1) (Or.inl ⟨by rfl,?_⟩) HS.o ?_
   rotate_left
   ·(intro W' hW';have c0:=hW'.1;have c1:=hW'.2.1;have c2:=hW'.2.2.1;have c3:=hW'.2.2.2;go_simp;try (with_reducible rfl))
   try simp only[ah,ak,aj]
   refine qB.take' (i:=6) (v:=?_) rfl rfl (by kernel_rfl) (fun _ _ _ h=>by cases h.1) (Or.inl ⟨by rfl,?_⟩) HS.o ?_
   rotate_left
   ·(intro W' hW';have c0:=hW'.1;have c1:=hW'.2.1;have c2:=hW'.2.2.1;have c3:=hW'.2.2.2;go_simp;try (with_reducible rfl))
   try simp only[ah,ak,aj]
   refine qB.take' (i:=7) (v:=?_) rfl rfl (by kernel_rfl) (fun _ _ _ h=>by cases h.1) (Or.inl ⟨by rfl,?_⟩) HS.o ?_
   rotate_left
   ·(intro W' hW';have c0:=hW'.1;have c1:=hW'.2.1;have c2:=hW'.2.2.1;have c3:=hW'.2.2.2;go_simp;try (with_reducible rfl))
   try simp only[ah,ak,aj]
   refine qB.take' (i:=8) (v:=?_) rfl rfl (by kernel_rfl) (fun _ _ _ h=>by cases h.1) (Or.inl ⟨by rfl,?_⟩) HS.o ?_
   rotate_left
   ·(intro W' hW';have c0:=hW'.1;have c1:=hW'.2.1;have c2:=hW'.2.2.1;have c3:=hW'.2.2.2;go_simp;try (with_reducible rfl))
   try simp only[ah,ak,aj]
   refine qB.one (i:=9) rfl (by kernel_rfl) (by rfl) (fun K1 hK1=>?_);go_simp
   refine hK1 _ _ ⟨qH _ HS.o.1,qH _ HS.o.2.1,qH _ HS.o.2.2.1,qH _ HS.o.2.2.2⟩ ?_;clear hK1;refine qB.one (i:=10) rfl (by kernel_rfl) (by rfl) (fun K2 hK2=>?_);have HF4:=Y7 (Kd.Sb (Kd.X9 (Kd.qR (Kd.uK HR1.o) (ok':=fun k=>w.heap.size≤k∧k<W1.heap.size) (fun k hk=>⟨by have h2:=hk.2.1;rw[bW] at h2;omega,hk.2.2.1⟩))));have HF5:=Y7 (Kd.Sb (Kd.X9 (Kd.qR (Kd.uK HR2.o) (ok':=fun k=>w.heap.size≤k∧k<W1.heap.size) (fun k hk=>⟨by have h2:=hk.2.1;rw[bW] at h2;omega,hk.2.2.1⟩))));have HL4:=Y7 (Kd.pE HR1.o).2.1;have HL5:=Y7 (Kd.pE HR2.o).2.1;refine Uc (c:=Region.wanted _ _=true) (by rfl) (Kd.I7 (ops := #[]) (W:=W1.drew) kP (w0:=w0) base (by rfl) (.tmp 16) (.tmp 21) 118 123 (.agg #[.int .i64 0,.slice none 0 0,.slice none 0 0]) 56 rfl Tryz.underlying118 Xr rfl (by decide) (by decide) v out ⟨f.num,s0⟩ _ (fun k=>p<k) (fun k=>w.heap.size≤k∧k<W1.heap.size) rfl rfl (Xy _ _ ⟨f.num,s0⟩ HL4.o HF4.o HL5.o HF5.o) ?ap1 ?ap2 (Kd.WZ HV2.o) (q9 af6.o) ?ap3 ?ap4 ?ap5)
   case ap1=>exact fun k hk=>⟨by omega,fun e=>by have:=HVL.o k e.symm;omega⟩
   case ap2=>exact fun k hk=>by have h1:W1.heap.size≤k:=hk;have h2:=HZ1.o;have h3:=hs2.o;show p<k;omega
   case ap3=>show base≤W1.heap.size;have h2:=HZ1.o;have h3:=hs2.o;omega
   case ap4=>omega
   case ap5=>
    intro v7 w7 hn7 hb7 hg7 agK;obtain⟨n7,A7,c7,rfl⟩:∃ n A c,v7 = .slice A n c:=by obtain⟨A7,c7,h⟩:=Kd.zW hn7;exact⟨_,A7,c7,h⟩
    have HW7:oM (CU w7 p v):=⟨qK (show W1.drew.heap[p]? = _ from HWp.o) hg7 (fun e=>by have h1:p<p:=HV.o.1 p e.symm;omega)⟩;have HF7:=Y7 (qK (show W1.drew.heap[w.heap.size]? = _ from HFb.o) hg7 (fun e=>by have:=HVL.o _ e.symm;omega));have HS7:=Y7 (qK (show W1.drew.heap[w1.heap.size]? = _ from HSb.o) hg7 (fun e=>by have:=HVL.o _ e.symm;have h2:=HZ1.o;omega));have HSS:oM (TS p v w.heap.size f.num w1.heap.size (.slice A1 s0.f0.length c1) (.slice A2 s0.f1.length c2) w7):=⟨(oQ HW7.o 0).trans rfl,(oQ HF7.o 1).trans rfl,(oQ HS7.o 0).trans rfl,(oQ HS7.o 1).trans rfl⟩;have HN7:=Y7 hn7;have HB7:=Y7 hb7;refine hK2 _ _ HSS.o ?_;clear hn7 hb7 hg7 agK hK2;simp only[Act.put,ah,ak,aj];refine qB.take' (i:=11) (v:=?_) rfl rfl (by kernel_rfl) (fun _ _ _ h=>by cases h.1) (Or.inl ⟨by rfl,?_⟩) HSS.o ?_
    rotate_left
    ·(intro W' hW';have c0:=hW'.1;have c1:=hW'.2.1;have c2:=hW'.2.2.1;have c3:=hW'.2.2.2;go_simp;try (with_reducible rfl))
    try simp only[ah,ak,aj]
    refine qB.take' (i:=12) (v:=?_) rfl rfl (by kernel_rfl) (fun _ _ _ h=>by cases h.1) (Or.inl ⟨by rfl,?_⟩) HSS.o ?_
    rotate_left
    ·(intro W' hW';have c0:=hW'.1;have c1:=hW'.2.1;have c2:=hW'.2.2.1;have c3:=hW'.2.2.2;go_simp;try (with_reducible rfl))
    try simp only[ah,ak,aj]
    refine qB.last rfl (by kernel_rfl) (by rfl) (fun K3 hK3=>?_);have b0:=HSS.o.1;have f0:=oW HW7.o 0;go_simp
    refine hK3 _ _ ⟨rfl,?_⟩;clear b0 f0
    first | refine fF (dQ rfl _ _ _) rfl ?_ | trace_state
    refine⟨rfl,_,qF HW7.o 0 _ rfl,?_,HB7.o.setCell (p:=⟨p,0,none⟩) hbase _⟩;exact Kd.X8 HN7.o (p:=⟨p,0,none⟩) (fun k hk e=>by have h1:p<k:=hk;have h2:k=p:=e;omega) _
end Go.Proofs.Y.PA
namespace Go.Proofs
open Go.Shelf Go.RowKit Go.Lib Go.Sort
def Tryz.MP:Go.Shelf.Ren:=⟨fun | 20=>134 | n=>n,fun | 24=>123 | 22=>118 | 3=>3 | 25=>125 | 4=>4 | 0=>0 | n=>n,fun | n=>n⟩
theorem Tryz.PZ:Go.Proofs.SlLaysF0.n20 Tryz.prog Tryz.MP:={
 mixed:=by kernel_rfl
 f20:=⟨Tryz.f134.name,by decide,Tryz.func134.trans (eU some (by kernel_rfl))⟩
 t0:=Tryz.underlying0
 a0:=Tryz.isAgg0
 z0:=Tryz.sizeOf0
 v0:=Tryz.zeroValue0
 t3:=Tryz.underlying3
 a3:=Tryz.isAgg3
 z3:=Tryz.sizeOf3
 v3:=Tryz.zeroValue3
 t4:=Tryz.underlying4
 a4:=Tryz.isAgg4
 z4:=Tryz.sizeOf4
 v4:=Tryz.zeroValue4
 t22:=Tryz.underlying118
 a22:=Tryz.isAgg118
 z22:=Tryz.sizeOf118
 v22:=Tryz.zeroValue118
 t25:=Tryz.underlying125
 a25:=Tryz.isAgg125
 z25:=Tryz.sizeOf125
 v25:=Tryz.zeroValue125 }
end Go.Proofs
namespace Go.Proofs.Y.PA
open Go.Shelf Go.RowKit Go.Lib Go.Sort
theorem TL:∀ w,(isAgg 123).run Tryz.prog w = .ok true w:=fun w=>by kernel_rfl
theorem Qk:∀ w,(Go.sizeOf 123).run Tryz.prog w = .ok 3 w:=fun w=>by kernel_rfl
structure EP where
 num:Int
 A0:Option Addr
 n0:Nat
 c0:Nat
 A1:Option Addr
 n1:Nat
 c1:Nat
def YF:EP:=⟨0,none,0,0,none,0,0⟩
instance:Inhabited EP:=⟨YF⟩
def qE (x:EP):List Value:=[.int .i64 x.num,.slice x.A0 x.n0 x.c0,.slice x.A1 x.n1 x.c1]
theorem Tm (x:EP):(qE x).length=3:=rfl
theorem Ed (x:EP):∀ v∈qE x,v.oneCell'=true:=by
 intro v hv;simp only[qE,iT,gY,lT] at hv;rcases hv with rfl | rfl | rfl<;>rfl
def Jq (a b:EP):Int:=Ja a.num b.num
def zD (a:EP):Int:=a.num
theorem PI (x y:EP):Jq x y<0↔zD x<zD y:=by
 unfold Jq Ja zD
 by_cases h:x.num<y.num
 ·simp[h]
 ·by_cases h2:y.num<x.num<;>simp[h,h2]
theorem Oj.c (a b:EP)(W:World):Calls Tryz.prog 76 #[.agg (qE a).toArray,.agg (qE b).toArray] W fun e w'=>e = .returned (.int .i64 (Jq a b))∧∃ q os',w'=grow (W.drewN q) os':=by
 unfold qE;simp only[List.toArray]
 go_enter Tryz.func76,Tryz.ntmps76
 have h0:(a.num != a.num)=false:=by simp
 have h1:(b.num != b.num)=false:=by simp
 by_cases h2:a.num<b.num
 ·have d2:decide (a.num<b.num)=true:=aC h2;have HC:Aside (Jq a b = -1):=by show Jq a b = -1;unfold Jq Ja;rw[au h2]
  clear h2
  go_wp2_with (first | go_in)
  go_ret;exact⟨by rw[show Jq a b = -1 from HC];rfl,0,_,by rw[gF,gF,lZ];rfl⟩
 ·have d2:decide (a.num<b.num)=false:=aD h2
  by_cases h3:b.num<a.num
  ·have d3:decide (b.num<a.num)=true:=aC h3;have HC:Aside (Jq a b=1):=by show Jq a b=1;unfold Jq Ja;rw[av h2,au h3]
   clear h2 h3
   go_wp2_with (first | go_in)
   go_ret;exact⟨by rw[show Jq a b=1 from HC];rfl,0,_,by rw[gF,gF,lZ];rfl⟩
  ·have d3:decide (b.num<a.num)=false:=aD h3;have HC:Aside (Jq a b=0):=by show Jq a b=0;unfold Jq Ja;rw[av h2,av h3]
   clear h2 h3
   go_wp2_with (first | go_in)
   go_ret;exact⟨by rw[show Jq a b=0 from HC];rfl,0,_,by rw[gF,gF,lZ];rfl⟩
theorem Oj.lays (blk off size:Nat)(w:World):CmpLays Tryz.prog 76 #[] qE 3 Jq blk off size w:=fun _ _ _ _ x y=>Oj.c x y _
theorem Oj.enters:∀ args w,(callFunc 76 args).run Tryz.prog w = .ok (.enter 76 args) w:=enters_of Tryz.func76 (by kernel_rfl) rfl
theorem Wh.c (blk off cap:Nat)(d:Array EP)(w:World)(R:RowK qE 3 w blk off d)(hsz:d.size<20) :
 Calls Tryz.prog 113 #[.slice (some ⟨blk,off,none⟩) d.size cap,.int .i64 d.size,.func (.func 76) #[] #[]] w fun e w'=>e = .returned (.tuple #[])∧∃ d',SWK qE 3 w blk off d' w'∧MG zD d 0 d.size d'∧uV zD d' 0 d.size:=by
 have hlt:∀ x y,ltOf Jq x y=true↔zD x<zD y:=fun x y=>by unfold ltOf;rw[jR];exact PI x y
 have INS:Calls Tryz.prog 134 #[.slice (some ⟨blk,off,none⟩) d.size cap,.int .i64 0,.int .i64 d.size,.func (.func 76) #[] #[]] w fun e w'=>e = .returned (.tuple #[])∧∃ d',SWK qE 3 w blk off d' w'∧MG zD d 0 d.size d'∧uV zD d' 0 d.size:=by
  have h:=kS Tryz.PZ 3 TL Qk qE (fun _=>rfl) Ed Jq 76 #[] blk off cap 0 d.size d w Oj.enters (Oj.lays _ _ _ _) R.hH R.hblk (bP _) (by omega) (by omega);refine kJ h ?_;rintro e w' ⟨he,n,os,rfl⟩;have hz:(Sort.insertionSort (ltOf Jq) d 0 d.size).size=d.size:=(Fa (fun x y=>(hlt x y).1) d 0 d.size (by omega) (by omega)).1;exact⟨he,_,(SWK.start R.hH).on R.hblk n _ os hz,Fa (fun x y=>(hlt x y).1) d 0 d.size (by omega) (by omega),KO hlt d 0 d.size (by omega) (by omega)⟩
 have IN:=Y7 INS;clear INS hlt R;generalize d.size=n at *;have aoS:¬ ((20:Int)≤(n:Int)):=by omega
 have aoT:¬ ((20:Int)<(n:Int)):=by omega
 go_enter Tryz.func113,Tryz.ntmps113
 go_wp2
 go_loopg [7,8] 0 (fun kx s7 s8 wr=>s7 = .int .i64 0∧s8 = .int .i64 20∧wr=w)
 case atStart=>exact⟨rfl,rfl,rfl⟩
 case round=>
  obtain⟨rfl,rfl,rfl⟩:=hrel
  go_wp2_with (first|(go_at_call 134;refine IN.o.mono ?_;rintro _ w1 ⟨rfl,hS⟩;have S1:=Y7 hS;clear hS))
  go_loopg [6,7,8,9] 0 (fun kx s6 s7 s8 s9 wq=>s6 = .int .i64 20∧wq=w1)
  case atStart=>exact⟨rfl,rfl⟩
  case round=>
   obtain⟨rfl,rfl⟩:=hrel;go_wp2;go_end0;exact⟨rfl,S1.o⟩
theorem Yz.c (blk off cap:Nat)(d:Array EP)(w:World)(R:RowK qE 3 w blk off d)(hsz:d.size<20) :
 Calls Tryz.prog 75 #[.slice (some ⟨blk,off,none⟩) d.size cap,.func (.func 76) #[] #[]] w fun e w'=>e = .returned (.tuple #[])∧∃ d',SWK qE 3 w blk off d' w'∧MG zD d 0 d.size d'∧uV zD d' 0 d.size:=by
 have HI:=Y7 (Wh.c blk off cap d w R hsz);clear R hsz;generalize d.size=n at *
 go_enter Tryz.func75,Tryz.ntmps75
 go_wp2_with (first|(go_at_call 113;refine HI.o.mono ?_;rintro e w' ⟨rfl,hw'⟩;have HW:=Y7 hw';clear hw'))
 go_end0;exact⟨rfl,HW.o⟩
def LM (m:Nat):Prop:=∀ (blk off cap:Nat) (d:Array EP) (w:World),Go.Proofs.RowK qE 3 w blk off d→d.size=m →
 Calls Tryz.prog 75 #[.slice (some ⟨blk,off,none⟩) d.size cap,.func (.func 76) #[] #[]] w fun e w'=>e = .returned (.tuple #[])∧∃ d',SWK qE 3 w blk off d' w'∧MG zD d 0 d.size d'∧uV zD d' 0 d.size
theorem RA {m:Nat}(h:m<20):LM m:=fun blk off cap d w R hs=>Yz.c blk off cap d w R (by omega)
end Go.Proofs.Y.PA
namespace Go.Proofs.Y.PA
open Go.RowKit Go.Proofs.Y.G Go.Proofs.YW.oO Go.Proofs.YW.pq Go.Proofs.YW.pz
theorem BI:∀ l:List ru,20*(qY l).length≤tot l+19*l.length
 | []=>by simp[qY,tot]
 | x::l=>by
   have ih:=BI l;have h3:(Fj x).length=(x.f1.length+19) / 20:=by simp[Fj]
   rw[show qY (x::l)=Fj x++qY l from rfl,aT,bq,tot];omega
theorem Bu:∀ {td:List ru},(∀ p∈td,M7 p)→(td.flatMap uf).length≤1014*td.length
 | [],_=>by simp
 | p::td,h=>by
   have ih:=Bu (td:=td) (fun q hq=>h q (dh _ hq));have:=(QO (h p cO)).2;rw[nC,aT,bq];omega
theorem G8 {l:List ru}(h:vG l=true):∀ x∈l,sI x.f0=true∧vC x.f1=true:=fun x hx=>by
 obtain⟨k,hk,rfl⟩:=List.mem_iff_getElem.1 hx;have h1:=Di h k hk;rw[KX,CJ,rz hk] at h1;simp only[dw] at h1;exact⟨h1.1.1,h1.1.2.2⟩
theorem zB:∀ (l:List ru) (j:Nat) (p:ru),qO j (l++[p])=qO j l++xH 2 (j+l.length+1) (uo p)
 | [],j,p=>by simp[qO]
 | q::l,j,p=>by
   rw[iC,qO,qO,zB l (j+1) p,bC,bq];congr 4;omega
theorem Lr.c (A:Option Addr)(c n:Nat)(l:List ru)(eb:List Int)(ee:Int)(w:World)(hn:l.length=n)(hr:Kd.C Bc w A n l)(hc:n≤c)(hok:Na l)(hl:n≤100000)(ht:tot l≤1000000)(hT:yN w)(hQ:zZ w)(he:vP l=(eb,ee)) :
 Calls Tryz.prog 9 #[.slice A n c] w fun e w'=>∃ v:Value,e = .returned (.tuple #[v,.int .i64 ee])∧Kd.R (Kd.int .u8) 5 w' w.heap.size (fun _=>True) v eb∧Below w.heap.size w w':=by
 subst hn;have HR:=Y7 hr;have HT:=Y7 ht;have HQ:=Y7 hQ;have hpc:=BI l;cases hcan:vG l with
 | false=>
   rw[vP,av (by rw[hcan];decide)] at he;cases he;have ENC:=Y7 (Bo.c A c l.length l [] 1 w rfl hr hc hok (by omega) (fun h=>by rw[hcan] at h;cases h) hT (by rw[Bo,av (by rw[hcan];decide)]));clear hr hok hT hQ ht
   go_enter Tryz.func9,Tryz.ntmps9
   go_wp2_with (first|(go_at_call 28;(with_reducible refine ENC.o.mono ?_);rintro e w1 ⟨v1,rfl,hr1,hb⟩;obtain⟨A1,c1,rfl⟩:=Kd.pO hr1;have HB1:=Y7 hb;clear hr1 hb))
   refine bf (dD rfl _ _ _) rfl ?_;exact⟨_,rfl,Kd.tJ _ _ _ _ _,HB1.o⟩
 | true=>
   rw[vP,au hcan] at he;cases he;have hP:=Fh hok (G8 hcan);have hPn:(qY l).length≤150000:=by omega
   have hsh:=Bu hP;have ENC:=Y7 (Bo.c A c l.length l ((qY l).flatMap uf) 0 w rfl hr hc hok (by omega) (fun _=>by rw[Ah];omega) hT (by rw[Bo,au hcan,Ah]));have HW:=Y7 (show uI l=xH 1 0 (rD (qY l).length 4)++(qO 0 (qY l)++xH 3 ((qY l).length+1) (rD (tot l) 8)) from rfl);have HP:=Y7 hP;generalize qY l=P at *;generalize hLL:P.flatMap uf=L at *;have HLL:=Y7 hLL;have HWL:oM (∃ W,uI l=W):=⟨_,rfl⟩;generalize uI l=WL at *;have hLn:L.length≤600000000:=by omega
   clear hr hok hT hQ hpc hP hsh hLL HWL ht
   go_enter Tryz.func9,Tryz.ntmps9
   go_wp2_with (first|(go_at_call 28;(with_reducible refine ENC.o.mono ?_);rintro e w1 ⟨v1,rfl,hr1,hb⟩;obtain⟨A1,c1,rfl⟩:=Kd.pO hr1;have HR1:=Y7 (Kd.pE hr1);have HB1:=Y7 hb;clear hr1 hb)|(go_at_call 29;(with_reducible refine (show Calls _ _ _ _ _ from by have h1:=split.c A1 c1 L.length P w1 HP.o (by rw[HLL.o]) (by rw[HLL.o];exact HR1.o.2.2) HR1.o.2.1 hLn (by omega);exact h1).mono ?_);rintro e w2 ⟨v2,rfl,hn2,hb⟩;obtain⟨A2,c2,rfl,hc2,hC2⟩:=Kd.yj hn2;have HC2:=Y7 hC2;have HB2:=Y7 (oP HB1.o hb);clear hn2 hC2 hb))
   have HRS:=Y7 (Kd.o9 HR.o HB2.o);have HLN:oM ((P.map uo).length=P.length):=⟨bN ..⟩;clear ENC HR1 HLL hLn
   go_loopg [7,25] l.length (fun kx s7 s25 wr=>∃ k:Nat,s25 = .int .i64 k∧k≤l.length∧l.length-k≤kx∧s7 = .int .i64 ((tot (l.take k):Nat):Int)∧oM (Below w2.heap.size w2 wr))
   case atStart=>exact⟨0,rfl,bP _,by omega,rfl,⟨aU _ _⟩⟩
   case round=>
    obtain⟨k,rfl,hk,hkx,rfl,HB⟩:=hrel
    by_cases hlt:k<l.length
    ·obtain⟨ad,A0,c0,A3,c3,rfl,x0,x1,l0,g0,l3,g3⟩:=wL (Kd.o9 HRS.o HB.o) (k:Int) (by omega) (by omega);rw[aG] at x0 x1;have hts:tot (l.take (k+1))=tot (l.take k)+(qc l (k:Int)).f1.length:=by
      rw[bQ hlt,zV,rz hlt]
     have htl:=zy l (k+1);have hT:=HT.o;have hkz:(k:Int)<(l.length:Int):=by omega
     clear l0 g0 l3 g3;generalize (qc l (k:Int)).f1.length=m1 at *;generalize (qc l (k:Int)).f0.length=m0 at *;generalize tot (l.take k)=tk at *;have hw1:IntKind.i64.wrap ((tk:Int)+(m1:Int))=((tk+m1:Nat):Int):=by rw[bD];omega
     go_wp2_with fail
     go_roundg (l.length-(k+1))
     case measure=>omega
     case rel=>exact⟨k+1,by go_num,hlt,ay _,by rw[hts];go_num,⟨oN HB.o _⟩⟩
    ·obtain rfl:k=l.length:=by omega
     rw[dz];have HB3:=Y7 (oP HB2.o HB.o);have HC3:=Y7 (Kd.o9 HC2.o HB.o);have hT:=HT.o;clear hlt hk hkx HB HB2 HC2 HRS HR HT;have hpu:IntKind.u64.wrap (P.length:Int)=(P.length:Int):=by simp[IntKind.wrap,IntKind.bits,IntKind.signed];omega
     have htu:IntKind.u64.wrap (tot l:Int)=(tot l:Int):=by simp[IntKind.wrap,IntKind.bits,IntKind.signed];omega
     have HX0:=Y7 (qx wr (.cells #[.slice none 0 0,.int .i64 0] 62 (0,0)));have HXB:=Y7 (oN (aU wr.heap.size wr) (.cells #[.slice none 0 0,.int .i64 0] 62 (0,0)))
     go_wp2_with (first|(go_at_call 31;(refine (Iu P.length 4 (by omega) (by decide) _).mono ?_);rintro e w4 ⟨v4,rfl,hr4,hb⟩;obtain⟨a4,c4,rfl⟩:=Kd.rV hr4 (by rw[pY];decide);have HR4:=Y7 (Kd.pE hr4);have HB4:=Y7 (oP HXB.o hb);have HX4:=Y7 (show WU w4 wr.heap.size (.slice none 0 0) ((0:Nat):Int) from o7 HX0.o hb);clear hr4 hb)|(go_at_call 30;(refine (Lu.c wr.heap.size 1 0 (rD P.length 4).length [] (rD P.length 4) (.slice none 0 0) (some a4) c4 wr.heap.size wr w4 (by decide) (by decide) rfl HR4.o.2.2 HR4.o.2.1 (by rw[pY];decide) (wB _ _) (HQ.o.below (oP HB3.o HB4.o)) HX4.o (Kd.tJ _ _ _ _ _) (by decide) HB4.o (ay _)).mono ?_);rintro e w5 ⟨rfl,v5,hw5,hr5,hb5,_,_⟩;have HW5:=Y7 hw5;have HR5:=Y7 hr5;have HB5:=Y7 hb5;clear hw5 hr5 hb5))
     obtain⟨w3,hw3⟩:∃ w3,w3=wr:=⟨_,rfl⟩;subst hw3;have hg0:w.heap.size≤w3.heap.size:=HB3.o.size;generalize hgg:w3.heap.size=g at *;have HCL:oM (∀ k,k≤P.length→(xH 1 0 (rD P.length 4)++qO 0 (P.take k)).length≤1000000000):=⟨fun k hk=>by
      have h1:=(zl (P.take k) 0 (fun p hp=>HP.o p (bT hp))).2;rw[aW] at h1;rw[aT,wX,pY];omega⟩
     clear HX0 HXB HB4 HX4 HR4
     go_loopg [45] P.length (fun kx s45 wx=>∃ (k:Nat) (v:Value),s45 = .int .i64 k∧k≤P.length∧P.length-k≤kx∧oM (WU wx g v ((k+1:Nat):Int))∧oM (Kd.R (Kd.int .u8) 5 wx g (fun _=>True) v (xH 1 0 (rD P.length 4)++qO 0 (P.take k)))∧oM (Below g w3 wx))
     case atStart=>exact⟨0,v5,rfl,bP _,by omega,HW5,⟨by have:=HR5.o;rw[cB] at this;rw[kD,qO,dZ];exact this⟩,HB5⟩
     case round=>
      clear HW5 HR5 HB5;obtain⟨k,v,rfl,hk,hkx,HWU,HRV,HB⟩:=hrel;have HBw:oM (Below w3.heap.size w3 wr):=⟨by rw[hgg];exact HB.o⟩
      by_cases hlt:k<P.length
      ·obtain⟨ad,A0,c0,rfl,x0,l0,g0⟩:=Pv (Kd.o9 HC3.o HBw.o) (k:Int) (by omega) (by rw[HLN.o];omega);rw[aG] at x0;have hrd:yE (P.map uo) (k:Int)=uo P[k]:=by simp[yE,aV,aR hlt]
       rw[hrd] at x0 l0 g0;have hpk:=HP.o P[k] (dL hlt);have hpo:=zu hpk;have HST:oM (xH 1 0 (rD P.length 4)++qO 0 (P.take k)++xH 2 (k+1) (uo P[k])=xH 1 0 (rD P.length 4)++qO 0 (P.take (k+1))):=⟨by
        rw[bQ hlt,zB,bC,aW,dJ (by omega),dK]⟩
       have WF:=Y7 (fun (m:Nat) (hm:(uo P[k]).length=m)=>Lu.c g 2 (k+1) m (xH 1 0 (rD P.length 4)++qO 0 (P.take k)) (uo P[k]) v A0 c0 g w3 wr (by decide) (by omega) hm (hm ▸ g0) (hm ▸ l0) (by omega) hpo.1 (HQ.o.below (oP HB3.o HBw.o)) HWU.o HRV.o (HCL.o k hk) HB.o (ay _));have hkz:(k:Int)<(P.length:Int):=by omega
       clear hrd hpk hpo l0 g0;generalize hm:(uo P[k]).length=m at *;have WF2:=Y7 (WF.o m rfl);clear WF
       go_wp2_with (first|(go_at_call 30;(refine WF2.o.mono ?_);rintro e w6 ⟨rfl,v6,hw6,hr6,hb6,_,_⟩;have HW6:=Y7 hw6;have HR6:=Y7 hr6;have HB6:=Y7 hb6;clear hw6 hr6 hb6))
       go_roundg (P.length-(k+1))
       case measure=>omega
       case rel=>exact⟨k+1,v6,by go_num,hlt,ay _,HW6,⟨by rw[← HST.o];exact HR6.o⟩,HB6⟩
      ·obtain rfl:k=P.length:=by omega
       rw[dz] at HRV;have hcl:=HCL.o P.length (ay _);rw[dz] at hcl;have HCE:=Y7 hcl;have HWx:oM (WU wr g v ((P.length+1:Nat):Int)):=HWU;clear hlt hk hkx HWU HCL hcl HC3 HLN
       go_wp2_with (first|(go_at_call 31;(refine (Iu (tot l) 8 (by omega) (by decide) _).mono ?_);rintro e w7 ⟨v7,rfl,hr7,hb⟩;obtain⟨a7,c7,rfl⟩:=Kd.rV hr7 (by rw[pY];decide);have HR7:=Y7 (Kd.pE hr7);have HW7:=Y7 (show WU w7 g v ((P.length+1:Nat):Int) from o7 HWx.o hb);have HV7:=Y7 (Kd.qo HRV.o hb);have HB7:=Y7 (oP HBw.o hb);have HBg:oM (Below g w3 w7):=⟨by rw[← hgg];exact HB7.o⟩;clear hr7 hb)|(go_at_call 30;(refine (Lu.c g 3 (P.length+1) (rD (tot l) 8).length (xH 1 0 (rD P.length 4)++qO 0 P) (rD (tot l) 8) v (some a7) c7 g w3 w7 (by decide) (by omega) rfl HR7.o.2.2 HR7.o.2.1 (by rw[pY];decide) (wB _ _) (HQ.o.below (oP HB3.o HB7.o)) HW7.o HV7.o HCE.o HBg.o (ay _)).mono ?_);rintro e w8 ⟨rfl,v8,hw8,hr8,hb8,_,_⟩;have b0:=(oQ hw8 0).trans rfl;generalize hWW:xH 1 0 (rD P.length 4)++qO 0 P++xH 3 (P.length+1) (rD (tot l) 8)=WW at hr8;have HWW:=Y7 hWW;clear hWW;obtain⟨A8,c8,rfl⟩:=Kd.pO hr8;have HR8:=Y7 hr8;have HB8:=Y7 hb8;clear hw8 hr8 hb8))
       refine bf (dD rfl _ _ _) rfl ?_;exact⟨_,rfl,by rw[HW.o,← bC,HWW.o];exact Kd.qW HR8.o hg0,HB3.o.trans (HB8.o.mono hg0)⟩
theorem Eu (n i:Nat)(hn:n<18446744073709551616)(hi:i≤8)(W:World):Calls Tryz.prog 34 #[.int .u64 n,.int .i64 i] W fun e w'=>∃ v0_:Value,e = .returned v0_∧Kd.R (Kd.int .u8) 5 w' W.heap.size (fun _=>True) v0_ (rD n i)∧Below W.heap.size W w' :=
 G.tV.c _ _ _ W (by rw[G.tV.f,uZ.f,au (by omega),aG];congr 2;unfold wid;omega)
theorem K8.c (k n m:Nat)(p:List Int)(A:Option Addr)(c:Nat)(w:World)(hk:k<256)(hn:n<4294967296)(hm:p.length=m)(hr:Kd.C (Kd.int .u8) w A m p)(hc:m≤c)(hl:m≤1000000)(hok:okB p=true) :
 Calls Tryz.prog 33 #[.int .i64 k,.int .i64 n,.slice A m c] w fun e w'=>∃ v:Value,e = .returned v∧Kd.R (Kd.int .u8) 5 w' w.heap.size (fun _=>True) v (xH k n p)∧Below w.heap.size w w':=by
 have HM:=Y7 hm;have HRP:oM (∀ W,Below w.heap.size w W→Kd.C (Kd.int .u8) W A m p):=⟨fun W hb=>Kd.o9 hr hb⟩;have HOK:=Y7 hok;have hku:IntKind.u8.wrap (k:Int)=(k:Int):=by simp[IntKind.wrap,IntKind.bits,IntKind.signed];omega
 have aoU:(k:Int) % 256=(k:Int):=by omega
 have hnu:IntKind.u64.wrap (n:Int)=(n:Int):=by simp[IntKind.wrap,IntKind.bits,IntKind.signed];omega
 have hmu:IntKind.u64.wrap (m:Int)=(m:Int):=by simp[IntKind.wrap,IntKind.bits,IntKind.signed];omega
 have agD:n<18446744073709551616:=by omega
 have amU:m<18446744073709551616:=by omega
 have HBR:=Y7 (aU w.heap.size w);have amV:oM (∀ W,Calls Tryz.prog 34 #[.int .u64 n,.int .i64 4] W fun e w'=>∃ v0_:Value,e = .returned v0_∧Kd.R (Kd.int .u8) 5 w' W.heap.size (fun _=>True) v0_ (rD n 4)∧Below W.heap.size W w'):=⟨fun W=>Eu n 4 agD (by decide) W⟩;have amW:oM (∀ W,Calls Tryz.prog 34 #[.int .u64 m,.int .i64 2] W fun e w'=>∃ v0_:Value,e = .returned v0_∧Kd.R (Kd.int .u8) 5 w' W.heap.size (fun _=>True) v0_ (rD m 2)∧Below W.heap.size W w'):=⟨fun W=>Eu m 2 amU (by decide) W⟩;obtain⟨L1,hL1⟩:∃ L,([208,215,(k:Int)]:List Int)=L:=⟨_,rfl⟩;obtain⟨L2,hL2⟩:∃ L,L1++rD n 4=L:=⟨_,rfl⟩;obtain⟨L3,hL3⟩:∃ L,L2++rD m 2=L:=⟨_,rfl⟩;obtain⟨L4,hL4⟩:∃ L,L3++p=L:=⟨_,rfl⟩;have hF:DW k n p=L4:=by rw[DW,hm,hL1,hL2,hL3,hL4]
 have e1:L1.length=3:=by rw[← hL1];rfl
 have e2:L2.length=7:=by rw[← hL2,aT,pY,e1]
 have e3:L3.length=9:=by rw[← hL3,aT,pY,e2]
 have e4:L4.length=9+m:=by rw[← hL4,aT,e3,hm]
 have HLN:oM (L1.length=3∧L2.length=7∧L3.length=9∧L4.length=9+m∧p.length=m):=⟨⟨e1,e2,e3,e4,hm⟩⟩;clear e1 e2 e3 e4;have HL1:=Y7 hL1;have HL2:=Y7 hL2;have HL3:=Y7 hL3;have HL4:=Y7 hL4;have HF:=Y7 hF;clear hr hok hm hL1 hL2 hL3 hL4 hF
 go_enter Tryz.func33,Tryz.ntmps33
 go_upto_region 3 with (first|((with_reducible refine qm (N:=10) rfl ?_);refine Kd.Bj (Kd.int .u8) _ 5 ?hg (N:=10) ?hd (xs:=([208,215,(k:Int)]:List Int)) (inner:=[.int .u8 208,.int .u8 215,.int .u8 (k:Int)]) (ok:=fun _=>True) (okp:=fun _=>True) ?hr ?hp (fun _ hk=>hk) bE (aU _ _) (ay _) (by simp) ?_;(case hd=>rfl);(case hg=>rfl);(case hr=>first|(go_simp;done)|(go_simp;rfl));(case hp=>exact (qP.one (show Kd.M (Kd.int .u8) _ _ _ 208 [.int .u8 208] from rfl) (qP.one (show Kd.M (Kd.int .u8) _ _ _ 215 [.int .u8 215] from rfl) (qP.one (show Kd.M (Kd.int .u8) _ _ _ (k:Int) [.int .u8 (k:Int)] from rfl) (qP.none _ _)))));intro v1 w1 ho hb hg_ ZG;rw[HL1.o] at ho;obtain⟨A1,c1,rfl⟩:=Kd.pO ho;have HB1:=Y7 hb;have HV1:=Y7 ho;clear ho hb hg_ ZG)|(go_at_call 34;(with_reducible refine (amV.o _).mono ?_);rintro e w2 ⟨x2,rfl,hr,hb⟩;obtain⟨ax2,cx2,rfl⟩:=Kd.rV hr (by rw[pY];decide);have HB2:=Y7 (oP HB1.o hb);have amX:=Y7 (Kd.qo HV1.o hb);have amY:=Y7 (Kd.pE hr).2.2;clear hr hb)|((with_reducible refine qm (N:=14) rfl ?_);go_must (refine Kd.sD (Kd.int .u8) (Rr:=(Kd.int .u8).K w2) (w0:=w) w.heap.size rfl (.tmp 10) (.tmp 13) 24 5 (.int .u8 0) 1 rfl Tryz.underlying24 rW rfl (by decide) (by decide) (.slice A1 L1.length c1) L1 (rD n 4) (some ax2) (rD n 4).length cx2 (fun _=>True) (fun _=>False) rfl rfl amX.o amY.o (fun _ _ h=>h) (fun _ h=>h.elim) (fun _ _=>bE) HB2.o HB2.o.size ?h6 ?_);(case h6=>((have h1_:=HLN.o;have h2_:=pY n 4;have h3_:=pY m 2;omega)));intro x3 w3 hr_ hb_ hg_ adu;rw[HL2.o] at hr_;obtain⟨Ax3,cx3,hv_⟩:=Kd.pO hr_;subst hv_;have HV3:=Y7 hr_;have HB3:=Y7 hb_;clear hr_ hb_ hg_ adu)|(go_at_call 34;(with_reducible refine (amW.o _).mono ?_);rintro e w4 ⟨x4,rfl,hr,hb⟩;obtain⟨ax4,cx4,rfl⟩:=Kd.rV hr (by rw[pY];decide);have HB4:=Y7 (oP HB3.o hb);have amZ:=Y7 (Kd.qo HV3.o hb);have am0:=Y7 (Kd.pE hr).2.2;clear hr hb)|((with_reducible refine qm (N:=20) rfl ?_);go_must (refine Kd.sD (Kd.int .u8) (Rr:=(Kd.int .u8).K w4) (w0:=w) w.heap.size rfl (.tmp 15) (.tmp 19) 24 5 (.int .u8 0) 1 rfl Tryz.underlying24 rW rfl (by decide) (by decide) (.slice Ax3 L2.length cx3) L2 (rD m 2) (some ax4) (rD m 2).length cx4 (fun _=>True) (fun _=>False) rfl rfl amZ.o am0.o (fun _ _ h=>h) (fun _ h=>h.elim) (fun _ _=>bE) HB4.o HB4.o.size ?h6 ?_);(case h6=>((have h1_:=HLN.o;have h2_:=pY n 4;have h3_:=pY m 2;omega)));intro x5 w5 hr_ hb_ hg_ adu;rw[HL3.o] at hr_;obtain⟨Ax5,cx5,hv_⟩:=Kd.pO hr_;subst hv_;have HV5:=Y7 hr_;have HB5:=Y7 hb_;clear hr_ hb_ hg_ adu)|((with_reducible refine qm (N:=22) rfl ?_);go_must (refine Kd.sD (Kd.int .u8) (Rr:=(Kd.int .u8).K w5) (w0:=w) w.heap.size rfl (.tmp 20) (.tmp 21) 24 5 (.int .u8 0) 1 rfl Tryz.underlying24 rW rfl (by decide) (by decide) (.slice Ax5 L3.length cx5) L3 p A m c (fun _=>True) (fun _=>False) rfl rfl HV5.o (HRP.o _ HB5.o) (fun _ _ h=>h) (fun _ h=>h.elim) (fun _ _=>bE) HB5.o HB5.o.size ?h6 ?_);(case h6=>((have h1_:=HLN.o;have h2_:=pY n 4;have h3_:=pY m 2;omega)));intro x6 w6 hr_ hb_ hg_ adu;rw[HL4.o] at hr_;obtain⟨Ax6,cx6,hv_⟩:=Kd.rV hr_ (by have h1_:=HLN.o;omega);subst hv_;have HV6:=Y7 hr_;have HB6:=Y7 hb_;clear hr_ hb_ hg_ adu))
 have HO4:oM (okB L4=true):=⟨by rw[← HF.o];exact KI hk HOK.o⟩;obtain⟨s,hs⟩:∃ s,Dn L4=s:=⟨_,rfl⟩;have akl:s<4294967296:=by rw[← hs];exact Gs HO4.o
 have SUM:oM (Calls Tryz.prog 66 #[.slice (some Ax6) L4.length cx6] w6 fun e w'=>e = .returned (.int .u32 (s:Nat))∧pJ w6 w'):=⟨G.vY.c (some Ax6) cx6 L4 (s:Nat) w6 (Kd.pE HV6.o).2.2 (Kd.pE HV6.o).2.1 (by rw[G.vY.f,wG.f,au HO4.o,← hs];rfl)⟩;have am1:oM (∀ W,Calls Tryz.prog 34 #[.int .u64 s,.int .i64 4] W fun e w'=>∃ v0_:Value,e = .returned v0_∧Kd.R (Kd.int .u8) 5 w' W.heap.size (fun _=>True) v0_ (rD s 4)∧Below W.heap.size W w'):=⟨fun W=>Eu s 4 (by omega) (by decide) W⟩;have hsu:IntKind.u64.wrap (s:Int)=(s:Int):=by simp[IntKind.wrap,IntKind.bits,IntKind.signed];omega
 have HS:=Y7 hs;clear hs
 go_wp2_with (first|(go_at_call 66;(with_reducible refine SUM.o.mono ?_);rintro e w7 ⟨rfl,hd⟩;have hb:=hd.below;have HB7:=Y7 (oP HB6.o hb);have HV7:=Y7 (Kd.qo HV6.o hb);clear hb hd)|(go_at_call 34;(with_reducible refine (am1.o _).mono ?_);rintro e w8 ⟨x8,rfl,hr,hb⟩;obtain⟨ax8,cx8,rfl⟩:=Kd.rV hr (by rw[pY];decide);have HB8:=Y7 (oP HB7.o hb);have HV8:=Y7 (Kd.qo HV7.o hb);have am2:=Y7 (Kd.pE hr).2.2;clear hr hb)|((with_reducible refine qm (N:=28) rfl ?_);go_must (refine Kd.sD (Kd.int .u8) (Rr:=(Kd.int .u8).K w8) (w0:=w) w.heap.size rfl (.tmp 23) (.tmp 27) 24 5 (.int .u8 0) 1 rfl Tryz.underlying24 rW rfl (by decide) (by decide) (.slice (some Ax6) L4.length cx6) L4 (rD s 4) (some ax8) (rD s 4).length cx8 (fun _=>True) (fun _=>False) rfl rfl HV8.o am2.o (fun _ _ h=>h) (fun _ h=>h.elim) (fun _ _=>bE) HB8.o HB8.o.size ?h6 ?_);(case h6=>((have h1_:=HLN.o;have h2_:=pY s 4;omega)));intro x9 w9 hr_ hb_ hg_ adu;obtain⟨Ax9,cx9,hv_⟩:=Kd.pO hr_;rw[aT] at hv_;subst hv_;have HV9:=Y7 hr_;have HB9:=Y7 hb_;clear hr_ hb_ hg_ adu))
 go_ret;exact⟨_,rfl,by rw[xH,HF.o,HS.o];exact HV9.o,HB9.o⟩
end Go.Proofs.Y.PA

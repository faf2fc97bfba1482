/- Of the law rZIQDumpBack. -/
import Derived.Test.YtcgbgifbajdhpaaGreatDoorZI39
set_option linter.unusedVariables false
set_option linter.unusedSimpArgs false
set_option maxHeartbeats 8000000
set_option maxRecDepth 100000
namespace Go.Proofs.Y.PA
open Go.RowKit Go.Proofs.Y.G Go.Proofs.YW.o7 Go.Proofs.YW.pJ Go.Proofs.YW.pO
theorem WB (W:World)(g:Nat)(A1 A2 A3 A4 A5:Option Addr)(c1 c2 c3 c4 c5 n1 n2 n3 n4 n5:Nat)(l1 l2 l3 l4 l5:List Int)(t:Nat)(fr:Nat × Nat)(e1:l1.length=n1)(e2:l2.length=n2)(e3:l3.length=n3)(e4:l4.length=n4)(e5:l5.length=n5)(hb:W.heap[g]? = some (.cells #[.slice A1 n1 c1,.slice A2 n2 c2,.slice A3 n3 c3,.slice A4 n4 c4,.slice A5 n5 c5] t fr))
 (h1:Kd.C (Kd.int .u8) W A1 l1.length l1) (k1:l1.length≤c1) (h2:Kd.C (Kd.int .u8) W A2 l2.length l2) (k2:l2.length≤c2) (h3:Kd.C (Kd.int .u8) W A3 l3.length l3) (k3:l3.length≤c3) (h4:Kd.C (Kd.int .u8) W A4 l4.length l4) (k4:l4.length≤c4) (h5:Kd.C (Kd.int .u8) W A5 l5.length l5) (k5:l5.length≤c5) :
 Kd.C (Kd.slice 5 (Kd.int .u8)) W (some ⟨g,0,none⟩) 5 [l1,l2,l3,l4,l5]:=by
 subst e1 e2 e3 e4 e5;have key:∀ (j:Nat) (u:Value),#[Value.slice A1 l1.length c1,.slice A2 l2.length c2,.slice A3 l3.length c3,.slice A4 l4.length c4,.slice A5 l5.length c5][j]? = some u→W.cell? (Addr.add ⟨g,0,none⟩ j)=some u:=fun j u hu=>by
  rw[add_plain];exact (je W g j _ t fr hb).trans hu
 have one:∀ (j:Nat) (u:Value),#[Value.slice A1 l1.length c1,.slice A2 l2.length c2,.slice A3 l3.length c3,.slice A4 l4.length c4,.slice A5 l5.length c5][j]? = some u→∀ i v,[u][i]? = some v→W.cell? (Addr.add ⟨g,0,none⟩ (j*1+i))=some v:=fun j u hu i v hv=>by
  match i,hv with
  | 0,hv=>
    injection hv with hv
    subst hv;rw[kZ,iB];exact key j u hu
  | n+1,hv=>simp at hv
 refine⟨rfl,by decide,fun _=>⟨_,rfl,fun j p hj=>?_⟩⟩
 match j,hj with
 | 0,hj=>injection hj with hj;subst hj;exact⟨_,rfl,⟨A1,c1,rfl,k1,h1⟩,one 0 _ rfl⟩
 | 1,hj=>injection hj with hj;subst hj;exact⟨_,rfl,⟨A2,c2,rfl,k2,h2⟩,one 1 _ rfl⟩
 | 2,hj=>injection hj with hj;subst hj;exact⟨_,rfl,⟨A3,c3,rfl,k3,h3⟩,one 2 _ rfl⟩
 | 3,hj=>injection hj with hj;subst hj;exact⟨_,rfl,⟨A4,c4,rfl,k4,h4⟩,one 3 _ rfl⟩
 | 4,hj=>injection hj with hj;subst hj;exact⟨_,rfl,⟨A5,c5,rfl,k5,h5⟩,one 4 _ rfl⟩
 | n+5,hj=>simp at hj
theorem He (n i:Nat)(hn:n<18446744073709551616)(hi:i≤8)(W:World):Calls Tryz.prog 31 #[.int .u64 n,.int .i64 i] W fun e w'=>∃ v0_:Value,e = .returned v0_∧Kd.R (Kd.int .u8) 5 w' W.heap.size (fun _=>True) v0_ (sS n i)∧Below W.heap.size W w' :=
 vQ.c _ _ _ W (by rw[vQ.f,ak (by omega),bf];congr 2;unfold wid;omega)
def SC (B k n m:Nat):Nat→Value→World→Prop
 | 0,v,W=>Kd.R (Kd.int .u8) 5 W B (fun _=>True) v [208,215]
 | 1,v,W=>Kd.R (Kd.int .u8) 5 W B (fun _=>True) v [(k:Int)]
 | 2,v,W=>Kd.R (Kd.int .u8) 5 W B (fun _=>True) v (sS n 4)
 | _+3,v,W=>Kd.R (Kd.int .u8) 5 W B (fun _=>True) v (sS m 2)
theorem NK {B k n m:Nat}:∀ (i:Nat) (v:Value) (W W':World),SC B k n m i v W→Below W.heap.size W W'→SC B k n m i v W'
 | 0,_,_,_,h,hb=>Kd.qO h hb
 | 1,_,_,_,h,hb=>Kd.qO h hb
 | 2,_,_,_,h,hb=>Kd.qO h hb
 | _+3,_,_,_,h,hb=>Kd.qO h hb
theorem WE.c (k n m:Nat)(p:List Int)(A:Option Addr)(c:Nat)(w:World)(hk:k<256)(hn:n<4294967296)(hm:p.length=m)(hr:Kd.C (Kd.int .u8) w A m p)(hc:m≤c)(hl:m≤1000000)(hok:okB p=true)(hT:zD w) :
 Calls Tryz.prog 64 #[.agg #[.int .i64 k,.int .i64 n,.slice A m c]] w fun e w'=>∃ v:Value,e = .returned v∧Kd.R (Kd.int .u8) 5 w' w.heap.size (fun _=>True) v (yx k n p)∧Below w.heap.size w w':=by
 have HM:=Yu hm;have HR:=Yu hr;have HT:=Yu hT;have HOK:=Yu hok;clear hr hok hT hm;have hku:IntKind.u8.wrap (k:Int)=(k:Int):=by simp[IntKind.wrap,IntKind.bits,IntKind.signed];omega
 have hnu:IntKind.u64.wrap (n:Int)=(n:Int):=by simp[IntKind.wrap,IntKind.bits,IntKind.signed];omega
 have hmu:IntKind.u64.wrap (m:Int)=(m:Int):=by simp[IntKind.wrap,IntKind.bits,IntKind.signed];omega
 go_enter Tryz.func64,Tryz.ntmps64
 go_wp2_with fail
 have HB0:=Yu (o8 (bq w.heap.size w) (.cells #[.int .i64 k,.int .i64 n,.slice A m c] 80 (0,0)));have HX0:=Yu (qG w (.cells #[.int .i64 k,.int .i64 n,.slice A m c] 80 (0,0)));generalize w.alloc (.cells #[.int .i64 k,.int .i64 n,.slice A m c] 80)=w1 at *;have HC0:oZ (∀ W',Below w1.heap.size w1 W'→W'.cell? ⟨w.heap.size,0,none⟩=some (.int .i64 k)):=⟨fun W' hb=>qm hb ((pq HX0.o 0).trans rfl)⟩;have HC1:oZ (∀ W',Below w1.heap.size w1 W'→W'.cell? ⟨w.heap.size,1,none⟩=some (.int .i64 n)):=⟨fun W' hb=>qm hb ((pq HX0.o 1).trans rfl)⟩;have HC2:oZ (∀ W',Below w1.heap.size w1 W'→W'.cell? ⟨w.heap.size,2,none⟩=some (.slice A m c)):=⟨fun W' hb=>qm hb ((pq HX0.o 2).trans rfl)⟩;have HS:=Yu (rM (bq w1.heap.size w1));refine xR (by kernel_rfl) (qy.start (n:=18) (S:=fun W'=>Below w1.heap.size w1 W') (by decide) ?_);refine qy.take' (i:=1) (v:=?_) rfl rfl (by kernel_rfl) (fun _ _ _ h=>by cases h.1) (Or.inl ⟨by rfl,?_⟩) HS.o ?_
 rotate_left
 ·(intro W' hW';have c0:=HC0.o W' hW';have c1:=HC1.o W' hW';have c2:=HC2.o W' hW';go_simp;try (with_reducible rfl))
 try simp only[ah,aI,ay]
 refine qy.take' (i:=2) (v:=?_) rfl rfl (by kernel_rfl) (fun _ _ _ h=>by cases h.1) (Or.inl ⟨by rfl,?_⟩) HS.o ?_
 rotate_left
 ·(intro W' hW';have c0:=HC0.o W' hW';have c1:=HC1.o W' hW';have c2:=HC2.o W' hW';go_simp;try (with_reducible rfl))
 try simp only[ah,aI,ay]
 refine qy.take' (i:=3) (v:=?_) rfl rfl (by kernel_rfl) (fun _ _ _ h=>by cases h.1) (Or.inl ⟨by rfl,?_⟩) HS.o ?_
 rotate_left
 ·(intro W' hW';have c0:=HC0.o W' hW';have c1:=HC1.o W' hW';have c2:=HC2.o W' hW';go_simp;try (with_reducible rfl))
 try simp only[ah,aI,ay]
 refine qy.take' (i:=5) (v:=?_) rfl rfl (by kernel_rfl) (fun _ _ _ h=>by cases h.1) (Or.inl ⟨by rfl,?_⟩) HS.o ?_
 rotate_left
 ·(intro W' hW';have c0:=HC0.o W' hW';have c1:=HC1.o W' hW';have c2:=HC2.o W' hW';go_simp;try (with_reducible rfl))
 try simp only[ah,aI,ay]
 refine qy.take' (i:=6) (v:=?_) rfl rfl (by kernel_rfl) (fun _ _ _ h=>by cases h.1) (Or.inl ⟨by rfl,?_⟩) HS.o ?_
 rotate_left
 ·(intro W' hW';have c0:=HC0.o W' hW';have c1:=HC1.o W' hW';have c2:=HC2.o W' hW';go_simp;try (with_reducible rfl))
 try simp only[ah,aI,ay]
 refine qy.take' (i:=7) (v:=?_) rfl rfl (by kernel_rfl) (fun _ _ _ h=>by cases h.1) (Or.inl ⟨by rfl,?_⟩) HS.o ?_
 rotate_left
 ·(intro W' hW';have c0:=HC0.o W' hW';have c1:=HC1.o W' hW';have c2:=HC2.o W' hW';go_simp;try (with_reducible rfl))
 try simp only[ah,aI,ay]
 refine qy.take' (i:=9) (v:=?_) rfl rfl (by kernel_rfl) (fun _ _ _ h=>by cases h.1) (Or.inl ⟨by rfl,?_⟩) HS.o ?_
 rotate_left
 ·(intro W' hW';have c0:=HC0.o W' hW';have c1:=HC1.o W' hW';have c2:=HC2.o W' hW';go_simp;try (with_reducible rfl))
 try simp only[ah,aI,ay]
 refine qy.take' (i:=10) (v:=?_) rfl rfl (by kernel_rfl) (fun _ _ _ h=>by cases h.1) (Or.inl ⟨by rfl,?_⟩) HS.o ?_
 rotate_left
 ·(intro W' hW';have c0:=HC0.o W' hW';have c1:=HC1.o W' hW';have c2:=HC2.o W' hW';go_simp;try (with_reducible rfl))
 try simp only[ah,aI,ay]
 refine qy.take' (i:=11) (v:=?_) rfl rfl (by kernel_rfl) (fun _ _ _ h=>by cases h.1) (Or.inl ⟨by rfl,?_⟩) HS.o ?_
 rotate_left
 ·(intro W' hW';have c0:=HC0.o W' hW';have c1:=HC1.o W' hW';have c2:=HC2.o W' hW';go_simp;try (with_reducible rfl))
 try simp only[ah,aI,ay]
 refine qy.take' (i:=12) (v:=?_) rfl rfl (by kernel_rfl) (fun _ _ _ h=>by cases h.1) (Or.inl ⟨by rfl,?_⟩) HS.o ?_
 rotate_left
 ·(intro W' hW';have c0:=HC0.o W' hW';have c1:=HC1.o W' hW';have c2:=HC2.o W' hW';go_simp;try (with_reducible rfl))
 try simp only[ah,aI,ay]
 refine qy.take' (i:=14) (v:=?_) rfl rfl (by kernel_rfl) (fun _ _ _ h=>by cases h.1) (Or.inl ⟨by rfl,?_⟩) HS.o ?_
 rotate_left
 ·(intro W' hW';have c0:=HC0.o W' hW';have c1:=HC1.o W' hW';have c2:=HC2.o W' hW';go_simp;try (with_reducible rfl))
 try simp only[ah,aI,ay]
 refine qy.take' (i:=15) (v:=?_) rfl rfl (by kernel_rfl) (fun _ _ _ h=>by cases h.1) (Or.inl ⟨by rfl,?_⟩) HS.o ?_
 rotate_left
 ·(intro W' hW';have c0:=HC0.o W' hW';have c1:=HC1.o W' hW';have c2:=HC2.o W' hW';go_simp;try (with_reducible rfl))
 try simp only[ah,aI,ay]
 refine qy.many (f:=2) [0,4,8,13] [4,8,12,17] (SC w1.heap.size k n m) NK (by kernel_rfl) rfl (by decide) HS.o (fun _ _ h hb=>o9 h hb) ?many ?rest
 case many=>
  intro j i d o h1 h2 h3;rcases j with _ | _ | _ | _ | j
  ·cases h1;cases h2;cases h3;refine⟨rfl,fun y W' hW'=>?_⟩;simp only[uM,ah,aI,ay];go_simp
   refine (uE.c [208,215] W' rfl).mono ?_;rintro e w2 ⟨v2,rfl,hr2,hb2⟩;exact⟨Kd.sj hr2 hW'.size,hb2⟩
  ·cases h1;cases h2;cases h3;refine⟨rfl,fun y W' hW'=>?_⟩;simp only[uM,ah,aI,ay];go_simp
   exact⟨Kd.zL (Pb W' w1.heap.size 5 .u8 [(k:Int)] hW'.size (by simp)) (fun _ _=>dD),o8 (bq _ _) _⟩
  ·cases h1;cases h2;cases h3;refine⟨rfl,fun y W' hW'=>?_⟩;simp only[uM,ah,aI,ay];go_simp
   refine (He n 4 (by omega) (by decide) W').mono ?_;rintro e w2 ⟨v2,rfl,hr2,hb2⟩;exact⟨Kd.sj hr2 hW'.size,hb2⟩
  ·cases h1;cases h2;cases h3;refine⟨rfl,fun y W' hW'=>?_⟩;simp only[uM,ah,aI,ay];go_simp
   refine (He m 2 (by omega) (by decide) W').mono ?_;rintro e w2 ⟨v2,rfl,hr2,hb2⟩;exact⟨Kd.sj hr2 hW'.size,hb2⟩
  ·simp at h1
 case rest=>
  intro y W2 hW2 hΦ;have r0:=hΦ 0 (by decide);have r1:=hΦ 1 (by decide);have r2:=hΦ 2 (by decide);have r3:=hΦ 3 (by decide);simp only[uM,ah,aI,ay];clear hΦ;generalize y 0=v0 at *;generalize y (0+1)=v1 at *;generalize y (0+1+1)=v2 at *;generalize y (0+1+1+1)=v3 at *;obtain⟨a0,c0,rfl⟩:=Kd.uI r0 (by decide);obtain⟨a1,c1,rfl⟩:=Kd.uI r1 (by simp);obtain⟨a2,c2,rfl⟩:=Kd.uI r2 (by rw[qE];decide);obtain⟨a3,c3,rfl⟩:=Kd.uI r3 (by rw[qE];decide);have R0:=Yu (show Kd.R (Kd.int .u8) 5 W2 _ (fun _=>True) _ [208,215] from r0);have R1:=Yu (show Kd.R (Kd.int .u8) 5 W2 _ (fun _=>True) _ [(k:Int)] from r1);have R2:=Yu (show Kd.R (Kd.int .u8) 5 W2 _ (fun _=>True) _ (sS n 4) from r2);have R3:=Yu (show Kd.R (Kd.int .u8) 5 W2 _ (fun _=>True) _ (sS m 2) from r3);have HP:=Yu (Kd.pI HR.o (HB0.o.trans (hW2.mono HB0.o.size)));clear r0 r1 r2 r3;refine qy.one (i:=16) rfl (by kernel_rfl) (by rfl) (fun K1 hK1=>?_);go_simp
  obtain⟨oS,hoS⟩:∃ oS:Obj,Obj.cells #[.slice (some a0) 2 c0,.slice (some a1) 1 c1,.slice (some a2) (sS n 4).length c2,.slice (some a3) (sS m 2).length c3,.slice A m c] 24 (0,0)=oS:=⟨_,rfl⟩;have HB3:=Yu (o8 hW2 oS);have aeS:=Yu (o8 (bq W2.heap.size W2) oS);have HN:=Yu (qG W2 oS);rw[hoS];refine hK1 _ _ HB3.o ?_;subst hoS;clear hK1;generalize (W2.alloc (.cells #[.slice (some a0) 2 c0,.slice (some a1) 1 c1,.slice (some a2) (sS n 4).length c2,.slice (some a3) (sS m 2).length c3,.slice A m c] 24 (0,0)))=W3 at *;have q0:=Kd.pR (Kd.qO R0.o aeS.o);have q1:=Kd.pR (Kd.qO R1.o aeS.o);have q2:=Kd.pR (Kd.qO R2.o aeS.o);have q3:=Kd.pR (Kd.qO R3.o aeS.o);have q4:=Kd.pI HP.o aeS.o;have CON:=Yu (OP.c (some ⟨W2.heap.size,0,none⟩) 5 5 [[208,215],[(k:Int)],sS n 4,sS m 2,p] W3 rfl
   (WB W3 W2.heap.size (some a0) (some a1) (some a2) (some a3) A c0 c1 c2 c3 c 2 1 _ _ m [208,215] [(k:Int)] (sS n 4) (sS m 2) p _ _ rfl rfl rfl rfl HM.o HN.o q0.2.2 q0.2.1 q1.2.2 q1.2.1 q2.2.2 q2.2.1 q3.2.2 q3.2.1 (by rw[HM.o];exact q4) (by rw[HM.o];exact hc)) (by decide) (by
    simp only[fV,List.flatten_nil,bg,fK,qE,bC];have:=HM.o;omega))
  clear q0 q1 q2 q3 q4;refine qy.one (i:=17) rfl (by kernel_rfl) (by rfl) (fun K2 hK2=>?_);go_simp
  refine CON.o.mono ?_;rintro e W4 ⟨v4,rfl,hr4,hb4⟩;have hfl:[[208,215],[(k:Int)],sS n 4,sS m 2,p].flatten=Et k n p:=by
   simp only[fV,List.flatten_nil,fq,Et,HM.o,bH,gH,dL]
  rw[hfl] at hr4;obtain⟨a4,c4,rfl⟩:=Kd.uI hr4 (by rw[Fg];omega);have HB4:=Yu (o9 HB3.o hb4);have HR4:=Yu hr4;clear hr4 hb4;refine hK2 _ _ HB4.o ?_;clear hK2;refine qy.last rfl (by kernel_rfl) (by rfl) (fun K3 hK3=>?_);go_simp
  refine hK3 _ _ ⟨rfl,?_⟩;clear hK3;have HFO:oZ (okB (Et k n p)=true):=⟨NJ hk HOK.o⟩;have HFL:oZ ((Et k n p).length=9+m):=⟨by rw[Fg,HM.o]⟩;have HCL:oZ (Dy (Et k n p)<4294967296):=⟨OQ HFO.o⟩;have SUM:=Yu (wT.qP (some a4) c4 (Et k n p) (Dy (Et k n p)) W4 rfl (Kd.pR HR4.o).2.2 (Kd.pR HR4.o).2.1 (HT.o.below (HB0.o.trans (HB4.o.mono HB0.o.size))) (by rw[wT.f,ak HFO.o];rfl));generalize hS:Dy (Et k n p)=s at *;have HSE:=Yu hS;have hcl:=HCL.o;have hsu:IntKind.u64.wrap (s:Int)=(s:Int):=by simp[IntKind.wrap,IntKind.bits,IntKind.signed];omega
  generalize hF:Et k n p=F at *;have HFE:=Yu hF;clear hS hF CON
  go_wp2_with (first|(go_at_call 96;(with_reducible refine SUM.o.mono ?_);rintro e w5 ⟨rfl,hb⟩;have HB5:=Yu (o9 (HB0.o.trans (HB4.o.mono HB0.o.size)) hb.below);have HR5:=Yu (Kd.qO HR4.o hb.below);clear hb)|(go_at_call 31;(refine (He s 4 (by omega) (by decide) _).mono ?_);rintro e w6 ⟨v6,rfl,hr6,hb6⟩;obtain⟨a6,c6,rfl⟩:=Kd.uI hr6 (by rw[qE];decide);have HB6:=Yu (o9 HB5.o hb6);have ajE:=Yu (Kd.sj (Kd.qO HR5.o hb6) (bM HB0.o.size HB3.o.size));have HR6:=Yu (Kd.pR hr6).2.2;clear hr6 hb6)|((with_reducible refine qK (N:=27) rfl ?_);go_must (refine Kd.uy (Kd.int .u8) (Rr:=(Kd.int .u8).K w6) (w0:=w) w.heap.size rfl (.tmp 22) (.tmp 26) 24 5 (.int .u8 0) 1 rfl Tryz.underlying24 uS rfl (by decide) (by decide) (.slice (some a4) F.length c4) F (sS s 4) (some a6) (sS s 4).length c6 (fun _=>True) (fun _=>False) rfl rfl ajE.o HR6.o (fun _ _ h=>h) (fun _ h=>h.elim) (fun _ _=>dD) HB6.o HB6.o.size ?h6 ?_);(case h6=>(rw[qE,HFL.o];omega));intro v7 w7 hr7 hb7 hg7 afv;obtain⟨A7,c7,hv7⟩:=Kd.qo hr7;rw[bg] at hv7;subst hv7;have HR7:=Yu hr7;have HB7:=Yu hb7;clear hr7 hb7 hg7 afv))
  go_ret;exact⟨_,rfl,by rw[yx,HFE.o,HSE.o];exact HR7.o,HB7.o⟩
def WU (W:World)(g:Nat)(v:Value)(q:Int):Prop:=W.heap[g]? = some (.cells #[v,.int .i64 q] 62 (0,0))
def WS (g:Nat)(v:Value)(q:Int)(W:World):Prop:=W.cell? ⟨g,0,none⟩=some v∧W.cell? ⟨g,1,none⟩=some (.int .i64 q)
theorem KI.c (g k q m:Nat)(b p:List Int)(v:Value)(A:Option Addr)(c base:Nat)(w0 w:World)(hk:k<256)(hq:q<4294967295)(hm:p.length=m)(hr:Kd.C (Kd.int .u8) w A m p)(hc:m≤c)(hl:m≤1000000)(hok:okB p=true)(hT:zD w)
 (hW:WU w g v q) (hv:Kd.R (Kd.int .u8) 5 w base (fun _=>True) v b) (hbl:b.length≤1000000000) (hB:Below base w0 w) (hbase:base≤g) :
 Calls Tryz.prog 30 #[.pointer (some ⟨g,0,none⟩),.int .i64 k,.slice A m c] w fun e w'=>e = .returned (.tuple #[])∧∃ v':Value,WU w' g v' ((q+1:Nat):Int)∧Kd.R (Kd.int .u8) 5 w' base (fun _=>True) v' (b++yx k q p)∧Below base w0 w'∧q8 w w' g v.ownBlock∧(v'.ownBlock=v.ownBlock∨∃ x,v'.ownBlock=some x∧w.heap.size≤x):=by
 have HM:=Yu hm;have HR:=Yu hr;have HT:=Yu hT;have HOK:=Yu hok;have HW:=Yu hW;have HV:=Yu hv;have HB:=Yu hB;have HC:=Yu hc;have hgl:g<w.heap.size:=rE hW;obtain⟨A1,c1,rfl⟩:=Kd.qo hv;have HNE:=Yu (Kd.JN hv hW (by decide));clear hr hok hT hm hW hv hB hc
 go_enter Tryz.func30,Tryz.ntmps30
 go_wp2_with fail
 have HS:oZ (WS g (.slice A1 b.length c1) q w.drew):=⟨(pq HW.o 0).trans rfl,(pq HW.o 1).trans rfl⟩;refine xR (by kernel_rfl) (qy.start (n:=16) (S:=WS g (.slice A1 b.length c1) q) (by decide) ?_);refine qy.take' (i:=0) (v:=?_) rfl rfl (by kernel_rfl) (fun _ _ _ h=>by cases h.1) (Or.inl ⟨by rfl,?_⟩) HS.o ?_
 rotate_left
 ·(intro W' hW';have c0:=hW'.1;have c1:=hW'.2;go_simp;try (with_reducible rfl))
 try simp only[ah,aI,ay]
 refine qy.take' (i:=1) (v:=?_) rfl rfl (by kernel_rfl) (fun _ _ _ h=>by cases h.1) (Or.inl ⟨by rfl,?_⟩) HS.o ?_
 rotate_left
 ·(intro W' hW';have c0:=hW'.1;have c1:=hW'.2;go_simp;try (with_reducible rfl))
 try simp only[ah,aI,ay]
 refine qy.take' (i:=2) (v:=?_) rfl rfl (by kernel_rfl) (fun _ _ _ h=>by cases h.1) (Or.inl ⟨by rfl,?_⟩) HS.o ?_
 rotate_left
 ·(intro W' hW';have c0:=hW'.1;have c1:=hW'.2;go_simp;try (with_reducible rfl))
 try simp only[ah,aI,ay]
 refine qy.take' (i:=3) (v:=?_) rfl rfl (by kernel_rfl) (fun _ _ _ h=>by cases h.1) (Or.inl ⟨by rfl,?_⟩) HS.o ?_
 rotate_left
 ·(intro W' hW';have c0:=hW'.1;have c1:=hW'.2;go_simp;try (with_reducible rfl))
 try simp only[ah,aI,ay]
 refine qy.take' (i:=4) (v:=?_) rfl rfl (by kernel_rfl) (fun _ _ _ h=>by cases h.1) (Or.inl ⟨by rfl,?_⟩) HS.o ?_
 rotate_left
 ·(intro W' hW';have c0:=hW'.1;have c1:=hW'.2;go_simp;try (with_reducible rfl))
 try simp only[ah,aI,ay]
 refine qy.take' (i:=5) (v:=?_) rfl rfl (by kernel_rfl) (fun _ _ _ h=>by cases h.1) (Or.inl ⟨by rfl,?_⟩) HS.o ?_
 rotate_left
 ·(intro W' hW';have c0:=hW'.1;have c1:=hW'.2;go_simp;try (with_reducible rfl))
 try simp only[ah,aI,ay]
 refine qy.take' (i:=6) (v:=?_) rfl rfl (by kernel_rfl) (fun _ _ _ h=>by cases h.1) (Or.inl ⟨by rfl,?_⟩) HS.o ?_
 rotate_left
 ·(intro W' hW';have c0:=hW'.1;have c1:=hW'.2;go_simp;try (with_reducible rfl))
 try simp only[ah,aI,ay]
 refine qy.take' (i:=7) (v:=?_) rfl rfl (by kernel_rfl) (fun _ _ _ h=>by cases h.1) (Or.inl ⟨by rfl,?_⟩) HS.o ?_
 rotate_left
 ·(intro W' hW';have c0:=hW'.1;have c1:=hW'.2;go_simp;try (with_reducible rfl))
 try simp only[ah,aI,ay]
 refine qy.take' (i:=8) (v:=?_) rfl rfl (by kernel_rfl) (fun _ _ _ h=>by cases h.1) (Or.inl ⟨by rfl,?_⟩) HS.o ?_
 rotate_left
 ·(intro W' hW';have c0:=hW'.1;have c1:=hW'.2;go_simp;try (with_reducible rfl))
 try simp only[ah,aI,ay]
 refine qy.take' (i:=9) (v:=?_) rfl rfl (by kernel_rfl) (fun _ _ _ h=>by cases h.1) (Or.inl ⟨by rfl,?_⟩) HS.o ?_
 rotate_left
 ·(intro W' hW';have c0:=hW'.1;have c1:=hW'.2;go_simp;try (with_reducible rfl))
 try simp only[ah,aI,ay]
 refine qy.take' (i:=10) (v:=?_) rfl rfl (by kernel_rfl) (fun _ _ _ h=>by cases h.1) (Or.inl ⟨by rfl,?_⟩) HS.o ?_
 rotate_left
 ·(intro W' hW';have c0:=hW'.1;have c1:=hW'.2;go_simp;try (with_reducible rfl))
 try simp only[ah,aI,ay]
 refine qy.take' (i:=11) (v:=?_) rfl rfl (by kernel_rfl) (fun _ _ _ h=>by cases h.1) (Or.inl ⟨by rfl,?_⟩) HS.o ?_
 rotate_left
 ·(intro W' hW';have c0:=hW'.1;have c1:=hW'.2;go_simp;try (with_reducible rfl))
 try simp only[ah,aI,ay]
 have FB:=Yu (WE.c k q m p A c w.drew hk (by omega) HM.o (Kd.pI HR.o (rM (bq _ _))) HC.o hl HOK.o (HT.o.below (rM (bq _ _))));refine qy.one (i:=12) rfl (by kernel_rfl) (by rfl) (fun K1 hK1=>?_);go_simp
 refine FB.o.mono ?_;rintro e w1 ⟨v1,rfl,hr1,hb1⟩;have HB1:=Yu (o9 (rM (bq w.heap.size w)) hb1);have HL1:oZ ((yx k q p).length=13+m):=⟨by rw[wC,HM.o]⟩;obtain⟨a1,d1,rfl⟩:=Kd.uI hr1 (by rw[HL1.o];omega);have HR1:=Yu (Kd.pR hr1);have HW1:=Yu (show WU w1 g (.slice A1 b.length c1) q from pG HW.o HB1.o);have HS1:oZ (WS g (.slice A1 b.length c1) q w1):=⟨(pq HW1.o 0).trans rfl,(pq HW1.o 1).trans rfl⟩;have afl:=Yu (HB.o.trans (HB1.o.mono (by omega)));refine hK1 _ _ HS1.o ?_;clear hK1 hr1 hb1 FB;generalize hF:yx k q p=F at *;refine qy.one (i:=13) rfl (by kernel_rfl) (by rfl) (fun K2 hK2=>?_);refine Tk (c:=Region.wanted _ _=true) (by rfl) (Kd.qV (ops := #[]) (Kd.int .u8) (Rr:=(Kd.int .u8).K w1) (w0:=w0) base (by rfl) (.tmp 10) (.tmp 18) 24 5 (.int .u8 0) 1 rfl Tryz.underlying24 uS rfl (by decide) (by decide) (.slice A1 b.length c1) b F (some a1) F.length d1 (fun _=>True) (fun _=>False) rfl rfl (Kd.qO HV.o HB1.o) HR1.o.2.2 (fun _ _ h=>h) (fun _ hk=>hk.elim) (fun _ _=>dD) afl.o (by have:=HB1.o.size;omega) (by rw[HL1.o];omega) ?ap)
 case ap=>
  intro v2 w2 hr2 hb2 hg2 aeG;have HW2:=Yu (show WU w2 g (.slice A1 b.length c1) q from rQ HW1.o hg2 HNE.o);have HS2:oZ (WS g (.slice A1 b.length c1) q w2):=⟨(pq HW2.o 0).trans rfl,(pq HW2.o 1).trans rfl⟩;have HR2:=Yu hr2;have HB2:=Yu hb2;have HK2:oZ (q8 w w2 g (Value.slice A1 b.length c1).ownBlock):=⟨(q8.of_below HB1.o g _).trans (q8.Tj hg2 g) (.inl rfl)⟩;have HAT:oZ (v2.ownBlock=(Value.slice A1 b.length c1).ownBlock∨∃ x,v2.ownBlock=some x∧w.heap.size≤x):=⟨by
   rcases aeG with h | ⟨x,h,h2⟩
   ·exact .inl h
   ·exact .inr ⟨x,h,bM HB1.o.size h2⟩⟩
  obtain⟨A2,c2,hv2⟩:=Kd.qo hr2;rw[bg] at hv2;subst hv2;refine hK2 _ _ HS2.o ?_;clear hr2 hb2 hg2 aeG hK2;simp only[Act.put,ah,aI,ay];refine qy.take' (i:=14) (v:=?_) rfl rfl (by kernel_rfl) (fun _ _ _ h=>by cases h.1) (Or.inl ⟨by rfl,?_⟩) HS2.o ?_
  rotate_left
  ·(intro W' hW';have c0:=hW'.1;have c1:=hW'.2;go_simp;try (with_reducible rfl))
  try simp only[ah,aI,ay]
  refine qy.take' (i:=15) (v:=?_) rfl rfl (by kernel_rfl) (fun _ _ _ h=>by cases h.1) (Or.inl ⟨by rfl,?_⟩) HS2.o ?_
  rotate_left
  ·(intro W' hW';have c0:=hW'.1;have c1:=hW'.2;go_simp;try (with_reducible rfl))
  try simp only[ah,aI,ay]
  refine qy.last rfl (by kernel_rfl) (by rfl) (fun K3 hK3=>?_);have b0:=HS2.o.1;have f0:=pE HW2.o 0;go_simp
  refine hK3 _ _ ⟨rfl,?_⟩;clear b0 f0;have HW3:oZ (WU (w2.setCell ⟨g,0,none⟩ (.slice A2 (b.length+F.length) c2)) g (.slice A2 (b.length+F.length) c2) q):=⟨qH HW2.o 0 _ rfl⟩;have HB3:oZ (Below base w0 (w2.setCell ⟨g,0,none⟩ (.slice A2 (b.length+F.length) c2))):=⟨HB2.o.setCell (p:=⟨g,0,none⟩) hbase _⟩;have HK3:=Yu (HK2.o.Ec 0 (.slice A2 (b.length+F.length) c2));have ahZ:=Yu (Kd.JN HR2.o HW2.o (by decide));have HR3:=Yu (Kd.uG (Kd.E9 rfl HR2.o) (p:=⟨g,0,none⟩) (fun k hk e=>ahZ.o (by have e':k=g:=e;rw[← e'];exact hk)) (.slice A2 (b.length+F.length) c2));generalize w2.setCell ⟨g,0,none⟩ (.slice A2 (b.length+F.length) c2)=w3 at *;have b1:=(pq HW3.o 1).trans rfl;have f1:=pE HW3.o 1;have hqq:IntKind.i64.wrap ((q:Int)+1)=((q+1:Nat):Int):=by rw[bI];omega
  go_wp2_with fail
  refine jS (gL rfl _ _ _) rfl ?_;refine⟨rfl,_,?_,Kd.sD (Kd.uG HR3.o (p:=⟨g,1,none⟩) (fun k hk e=>ahZ.o (by have e':k=g:=e;rw[← e'];exact hk)) _) (fun _ _=>dD),HB3.o.setCell (p:=⟨g,1,none⟩) hbase _,HK3.o.Ec 1 _,HAT.o⟩;exact qH HW3.o 1 _ (by rfl)
def zP:Pt:=⟨0,⟨[],[]⟩⟩
def kP:Kd Pt:=Kd.XJ (Kd.pair (Kd.int .i64) (Kd.pair (Kd.slice 68 wE) (Kd.slice 70 vk))) (fun x:Pt=>((x.num:Int),x.ser.f0,x.ser.f1))
theorem Km {w:World}{x:Pt}{cs:List Value}(h:kP.K w x cs):∃ A0 c0 A1 c1,cs=[.int .i64 x.num,.slice A0 x.ser.f0.length c0,.slice A1 x.ser.f1.length c1]∧x.ser.f0.length≤c0∧wE.C w A0 x.ser.f0.length x.ser.f0∧x.ser.f1.length≤c1∧vk.C w A1 x.ser.f1.length x.ser.f1:=by
 obtain⟨_,_,rfl,rfl,⟨_,_,rfl,⟨A0,c0,rfl,l0,g0⟩,⟨A1,c1,rfl,l1,g1⟩⟩⟩:=h;exact⟨A0,c0,A1,c1,rfl,l0,g0,l1,g1⟩
theorem XL (w:World)(x:Pt){A0 A1:Option Addr}{c0 c1:Nat}(l0:x.ser.f0.length≤c0)(g0:wE.C w A0 x.ser.f0.length x.ser.f0)(l1:x.ser.f1.length≤c1)(g1:vk.C w A1 x.ser.f1.length x.ser.f1):kP.K w x [.int .i64 x.num,.slice A0 x.ser.f0.length c0,.slice A1 x.ser.f1.length c1]:=
 ⟨[.int .i64 x.num],_,rfl,rfl,⟨[.slice A0 x.ser.f0.length c0],_,rfl,⟨A0,c0,rfl,l0,g0⟩,⟨A1,c1,rfl,l1,g1⟩⟩⟩
theorem WK (W:World)(ok:Nat→Prop)(x:Pt){A0 A1:Option Addr}{c0 c1:Nat}(l0:x.ser.f0.length≤c0)(g0:Kd.F wE W ok A0 x.ser.f0.length x.ser.f0)(l1:x.ser.f1.length≤c1)(g1:Kd.F vk W ok A1 x.ser.f1.length x.ser.f1):Kd.FK kP W ok x [.int .i64 x.num,.slice A0 x.ser.f0.length c0,.slice A1 x.ser.f1.length c1]:=fun W2 hW=>XL W2 x l0 (g0 W2 hW) l1 (g1 W2 hW)
theorem WI:(Tryz.prog.info? 123).map (fun i=>(i.zero,i.size,i.bytes))=some (some (.agg #[.int .i64 0,.slice none 0 0,.slice none 0 0]),3,56):=by kernel_rfl
def CU (W:World)(p:Nat)(v:Value):Prop:=W.heap[p]? = some (.cells #[v] 120 (0,0))
def TS (p:Nat)(v:Value)(g:Nat)(q:Int)(h:Nat)(x0 x1:Value)(W:World):Prop:=W.cell? ⟨p,0,none⟩=some v∧W.cell? ⟨g,1,none⟩=some (.int .i64 q)∧W.cell? ⟨h,0,none⟩=some x0∧W.cell? ⟨h,1,none⟩=some x1
theorem take.c (p m:Nat)(f:Fr)(v:Value)(out:List Pt)(A:Option Addr)(c base:Nat)(w0 w:World)(hm:f.pay.length=m)(hr:Kd.C (Kd.int .u8) w A m f.pay)(hc:m≤c)(hl:m≤1000)(hok:okB f.pay=true)(hT:xZ w)
 (hW:CU w p v) (hv:Kd.N kP 123 w base (fun k=>p<k) v out) (hol:out.length≤1000000000) (hB:Below base w0 w) (hbase:base≤p) :
 Calls Tryz.prog 74 #[.pointer (some ⟨p,0,none⟩),.agg #[.int .i64 f.kind,.int .i64 f.num,.slice A m c]] w fun e w'=>e = .returned (.tuple #[])∧∃ v':Value,CU w' p v'∧Kd.N kP 123 w' base (fun k=>p<k) v' (out++(tT f).toList)∧Below base w0 w':=by
 have HW:=Yu hW;have HV:=Yu hv;have HB:=Yu hB;have hpl:p<w.heap.size:=rE hW;have HF:=Yu (qG w (.cells #[.int .i64 f.kind,.int .i64 f.num,.slice A m c] 80 (0,0)));have HBA:=Yu (o8 (bq w.heap.size w) (.cells #[.int .i64 f.kind,.int .i64 f.num,.slice A m c] 80 (0,0)));have hse:=fun W (hb:Below w.heap.size w W)=>series.c f A c m W hm (Kd.pI hr hb) hc hok hl (hT.below hb)
 cases hp:tT f with
 | none=>
   have SE:oZ (∀ W,Below w.heap.size w W→Calls Tryz.prog 112 #[.agg #[.int .i64 f.kind,.int .i64 f.num,.slice A m c]] W fun e w'=>∃ (A1 A2:Option Addr) (n1 c1 n2 c2:Nat),e = .returned (.tuple #[.agg #[.slice A1 n1 c1,.slice A2 n2 c2],.bool false])∧Below W.heap.size W w'):=⟨fun W hb=>(hse W hb).mono fun e w' ⟨A1,A2,n1,c1,n2,c2,ok,he,hb2,h⟩=>by
    rcases h with ⟨rfl,_⟩ | ⟨_,s,h,_⟩
    ·exact⟨A1,A2,n1,c1,n2,c2,he,hb2⟩
    ·rw[hp] at h;cases h⟩
   clear hse hr hok hT hW hv hB hp
   go_enter Tryz.func74,Tryz.ntmps74
   go_wp2_with (go_at_call 112;(with_reducible refine (SE.o _ HBA.o).mono ?_);rintro e w1 ⟨A1,A2,n1,c1,n2,c2,rfl,hb⟩;have HB1:=Yu (o9 HBA.o hb);clear hb)
   refine jS (gL rfl _ _ _) rfl ?_;have HB2:=Yu (o8 HB1.o (.cells #[.slice A1 n1 c1,.slice A2 n2 c2] 51 (0,0)));exact⟨rfl,v,pG HW.o HB2.o,by rw[Option.toList_none,fq];exact Kd.wm HV.o HB2.o,HB.o.trans (HB2.o.mono (by omega))⟩
 | some q=>
   obtain⟨num,s0⟩:=q;have ajF:num=f.num:=by
    unfold tT at hp;split at hp
    ·obtain⟨s,_,h⟩:=Option.map_eq_some_iff.1 hp;cases h;rfl
    ·cases hp
   subst ajF;have SE:oZ (∀ W,Below w.heap.size w W→Calls Tryz.prog 112 #[.agg #[.int .i64 f.kind,.int .i64 f.num,.slice A m c]] W fun e w'=>∃ (A1 A2:Option Addr) (c1 c2:Nat),e = .returned (.tuple #[.agg #[.slice A1 s0.f0.length c1,.slice A2 s0.f1.length c2],.bool true])∧Below W.heap.size W w'∧Kd.R wE 68 w' W.heap.size (fun _=>True) (.slice A1 s0.f0.length c1) s0.f0∧Kd.R vk 70 w' W.heap.size (fun _=>True) (.slice A2 s0.f1.length c2) s0.f1):=⟨fun W hb=>(hse W hb).mono fun e w' ⟨A1,A2,n1,c1,n2,c2,ok,he,hb2,h⟩=>by
    rcases h with ⟨_,h⟩ | ⟨rfl,s,h,_,_,h1,h2⟩
    ·rw[hp] at h;cases h
    ·rw[hp] at h;cases h;obtain⟨_,_,e1⟩:=Kd.qo h1;obtain⟨_,_,e2⟩:=Kd.qo h2;cases e1;cases e2;exact⟨A1,A2,c1,c2,he,hb2,h1,h2⟩⟩
   clear hse hr hok hT hW hv hB hp
   go_enter Tryz.func74,Tryz.ntmps74
   go_wp2_with (go_at_call 112;(with_reducible refine (SE.o _ HBA.o).mono ?_);rintro e w1 ⟨A1,A2,c1,c2,rfl,hb,h1,h2⟩;have HB1:=Yu (o9 HBA.o hb);have HS1:=Yu h1;have HS2:=Yu h2;have HF1:=Yu (pG HF.o hb);have HZ1:oZ (w.heap.size+1≤w1.heap.size):=⟨by have:=hb.size;rw[eG] at this;exact this⟩;clear hb h1 h2)
   have HB2:=Yu (o8 HB1.o (.cells #[.slice A1 s0.f0.length c1,.slice A2 s0.f1.length c2] 51 (0,0)));have HWp:oZ (CU (w1.alloc (.cells #[.slice A1 s0.f0.length c1,.slice A2 s0.f1.length c2] 51 (0,0))) p v):=⟨pG HW.o HB2.o⟩;have HFb:=Yu (pU HF1.o (.cells #[.slice A1 s0.f0.length c1,.slice A2 s0.f1.length c2] 51 (0,0)));have HSb:=Yu (qG w1 (.cells #[.slice A1 s0.f0.length c1,.slice A2 s0.f1.length c2] 51 (0,0)));have HR1:=Yu (Kd.vO HS1.o (.cells #[.slice A1 s0.f0.length c1,.slice A2 s0.f1.length c2] 51 (0,0)));have HR2:=Yu (Kd.vO HS2.o (.cells #[.slice A1 s0.f0.length c1,.slice A2 s0.f1.length c2] 51 (0,0)));have HV2:=Yu (Kd.wm HV.o HB2.o);have agu:=Yu (HB.o.trans (HB2.o.mono (show base≤w.heap.size by omega)));have HVL:=Yu (Kd.Xy HV.o);have hs2:oZ ((w1.alloc (.cells #[.slice A1 s0.f0.length c1,.slice A2 s0.f1.length c2] 51 (0,0))).heap.size=w1.heap.size+1):=⟨eG ..⟩;generalize w1.alloc (.cells #[.slice A1 s0.f0.length c1,.slice A2 s0.f1.length c2] 51 (0,0))=W1 at *;have HS:oZ (TS p v w.heap.size f.num w1.heap.size (.slice A1 s0.f0.length c1) (.slice A2 s0.f1.length c2) W1.drew):=⟨(pq HWp.o 0).trans rfl,(pq HFb.o 1).trans rfl,(pq HSb.o 0).trans rfl,(pq HSb.o 1).trans rfl⟩;clear HF HF1 HB1 HS1 HS2 SE HBA;refine xR (by kernel_rfl) (qy.start (n:=13) (S:=TS p v w.heap.size f.num w1.heap.size (.slice A1 s0.f0.length c1) (.slice A2 s0.f1.length c2)) (by decide) ?_);refine qy.take' (i:=0) (v:=?_) rfl rfl (by kernel_rfl) (fun _ _ _ h=>by cases h.1) (Or.inl ⟨by rfl,?_⟩) HS.o ?_
   rotate_left
   ·(intro W' hW';have c0:=hW'.1;have c1:=hW'.2.1;have c2:=hW'.2.2.1;have c3:=hW'.2.2.2;go_simp;try (with_reducible rfl))
   try simp only[ah,aI,ay]
   refine qy.take' (i:=1) (v:=?_) rfl rfl (by kernel_rfl) (fun _ _ _ h=>by cases h.1) (Or.inl ⟨by rfl,?_⟩) HS.o ?_
   rotate_left
   ·(intro W' hW';have c0:=hW'.1;have c1:=hW'.2.1;have c2:=hW'.2.2.1;have c3:=hW'.2.2.2;go_simp;try (with_reducible rfl))
   try simp only[ah,aI,ay]
   refine qy.take' (i:=2) (v:=?_) rfl rfl (by kernel_rfl) (fun _ _ _ h=>by cases h.1) (Or.inl ⟨by rfl,?_⟩) HS.o ?_
   rotate_left
   ·(intro W' hW';have c0:=hW'.1;have c1:=hW'.2.1;have c2:=hW'.2.2.1;have c3:=hW'.2.2.2;go_simp;try (with_reducible rfl))
   try simp only[ah,aI,ay]
   refine qy.take' (i:=3) (v:=?_) rfl rfl (by kernel_rfl) (fun _ _ _ h=>by cases h.1) (Or.inl ⟨by rfl,?_⟩) HS.o ?_
   rotate_left
   ·(intro W' hW';have c0:=hW'.1;have c1:=hW'.2.1;have c2:=hW'.2.2.1;have c3:=hW'.2.2.2;go_simp;try (with_reducible rfl))
   try simp only[ah,aI,ay]
   refine qy.take' (i:=4) (v:=?_) rfl rfl (by kernel_rfl) (fun _ _ _ h=>by cases h.1) (Or.inl ⟨by rfl,?_⟩) HS.o ?_
   rotate_left
   ·(intro W' hW';have c0:=hW'.1;have c1:=hW'.2.1;have c2:=hW'.2.2.1;have c3:=hW'.2.2.2;go_simp;try (with_reducible rfl))
   try simp only[ah,aI,ay]
   refine qy.take' (i:=5) (v:=?_) rfl rfl (by kernel_rfl) (fun _ _ _ h=>by cases h.1) (Or.inl ⟨by rfl,?_⟩) HS.o ?_
   rotate_left
   ·(intro W' hW';have c0:=hW'.1;have c1:=hW'.2.1;have c2:=hW'.2.2.1;have c3:=hW'.2.2.2;go_simp;try (with_reducible rfl))
   try simp only[ah,aI,ay]
   refine qy.take' (i:=6) (v:=?_) rfl rfl (by kernel_rfl) (fun _ _ _ h=>by cases h.1) (Or.inl ⟨by rfl,?_⟩) HS.o ?_
   rotate_left
   ·(intro W' hW';have c0:=hW'.1;have c1:=hW'.2.1;have c2:=hW'.2.2.1;have c3:=hW'.2.2.2;go_simp;try (with_reducible rfl))
   try simp only[ah,aI,ay]
   refine qy.take' (i:=7) (v:=?_) rfl rfl (by kernel_rfl) (fun _ _ _ h=>by cases h.1) (Or.inl ⟨by rfl,?_⟩) HS.o ?_
   rotate_left
   ·(intro W' hW';have c0:=hW'.1;have c1:=hW'.2.1;have c2:=hW'.2.2.1;have c3:=hW'.2.2.2;go_simp;try (with_reducible rfl))
   try simp only[ah,aI,ay]
   refine qy.take' (i:=8) (v:=?_) rfl rfl (by kernel_rfl) (fun _ _ _ h=>by cases h.1) (Or.inl ⟨by rfl,?_⟩) HS.o ?_
   rotate_left
   ·(intro W' hW';have c0:=hW'.1;have c1:=hW'.2.1;have c2:=hW'.2.2.1;have c3:=hW'.2.2.2;go_simp;try (with_reducible rfl))
   try simp only[ah,aI,ay]
   refine qy.one (i:=9) rfl (by kernel_rfl) (by rfl) (fun K1 hK1=>?_);go_simp
   refine hK1 _ _ ⟨tX _ HS.o.1,tX _ HS.o.2.1,tX _ HS.o.2.2.1,tX _ HS.o.2.2.2⟩ ?_;clear hK1;refine qy.one (i:=10) rfl (by kernel_rfl) (by rfl) (fun K2 hK2=>?_);have HF4:=Yu (Kd.Na (Kd.Yk (Kd.sD (Kd.vD HR1.o) (ok':=fun k=>w.heap.size≤k∧k<W1.heap.size) (fun k hk=>⟨by have h2:=hk.2.1;rw[eG] at h2;omega,hk.2.2.1⟩))));have HF5:=Yu (Kd.Na (Kd.Yk (Kd.sD (Kd.vD HR2.o) (ok':=fun k=>w.heap.size≤k∧k<W1.heap.size) (fun k hk=>⟨by have h2:=hk.2.1;rw[eG] at h2;omega,hk.2.2.1⟩))));have HL4:=Yu (Kd.pR HR1.o).2.1;have HL5:=Yu (Kd.pR HR2.o).2.1;refine Tk (c:=Region.wanted _ _=true) (by rfl) (Kd.Bj (ops := #[]) (W:=W1.drew) kP (w0:=w0) base (by rfl) (.tmp 16) (.tmp 21) 118 123 (.agg #[.int .i64 0,.slice none 0 0,.slice none 0 0]) 56 rfl Tryz.underlying118 WI rfl (by decide) (by decide) v out ⟨f.num,s0⟩ _ (fun k=>p<k) (fun k=>w.heap.size≤k∧k<W1.heap.size) rfl rfl (WK _ _ ⟨f.num,s0⟩ HL4.o HF4.o HL5.o HF5.o) ?ap1 ?ap2 (Kd.xX HV2.o) (rM agu.o) ?ap3 ?ap4 ?ap5)
   case ap1=>exact fun k hk=>⟨by omega,fun e=>by have:=HVL.o k e.symm;omega⟩
   case ap2=>exact fun k hk=>by have h1:W1.heap.size≤k:=hk;have h2:=HZ1.o;have h3:=hs2.o;show p<k;omega
   case ap3=>show base≤W1.heap.size;have h2:=HZ1.o;have h3:=hs2.o;omega
   case ap4=>omega
   case ap5=>
    intro v7 w7 hn7 hb7 hg7 afv;obtain⟨n7,A7,c7,rfl⟩:∃ n A c,v7 = .slice A n c:=by obtain⟨A7,c7,h⟩:=Kd.Ch hn7;exact⟨_,A7,c7,h⟩
    have HW7:oZ (CU w7 p v):=⟨rQ (show W1.drew.heap[p]? = _ from HWp.o) hg7 (fun e=>by have h1:p<p:=HV.o.1 p e.symm;omega)⟩;have HF7:=Yu (rQ (show W1.drew.heap[w.heap.size]? = _ from HFb.o) hg7 (fun e=>by have:=HVL.o _ e.symm;omega));have HS7:=Yu (rQ (show W1.drew.heap[w1.heap.size]? = _ from HSb.o) hg7 (fun e=>by have:=HVL.o _ e.symm;have h2:=HZ1.o;omega));have HSS:oZ (TS p v w.heap.size f.num w1.heap.size (.slice A1 s0.f0.length c1) (.slice A2 s0.f1.length c2) w7):=⟨(pq HW7.o 0).trans rfl,(pq HF7.o 1).trans rfl,(pq HS7.o 0).trans rfl,(pq HS7.o 1).trans rfl⟩;have HN7:=Yu hn7;have HB7:=Yu hb7;refine hK2 _ _ HSS.o ?_;clear hn7 hb7 hg7 afv hK2;simp only[Act.put,ah,aI,ay];refine qy.take' (i:=11) (v:=?_) rfl rfl (by kernel_rfl) (fun _ _ _ h=>by cases h.1) (Or.inl ⟨by rfl,?_⟩) HSS.o ?_
    rotate_left
    ·(intro W' hW';have c0:=hW'.1;have c1:=hW'.2.1;have c2:=hW'.2.2.1;have c3:=hW'.2.2.2;go_simp;try (with_reducible rfl))
    try simp only[ah,aI,ay]
    refine qy.take' (i:=12) (v:=?_) rfl rfl (by kernel_rfl) (fun _ _ _ h=>by cases h.1) (Or.inl ⟨by rfl,?_⟩) HSS.o ?_
    rotate_left
    ·(intro W' hW';have c0:=hW'.1;have c1:=hW'.2.1;have c2:=hW'.2.2.1;have c3:=hW'.2.2.2;go_simp;try (with_reducible rfl))
    try simp only[ah,aI,ay]
    refine qy.last rfl (by kernel_rfl) (by rfl) (fun K3 hK3=>?_);have b0:=HSS.o.1;have f0:=pE HW7.o 0;go_simp
    refine hK3 _ _ ⟨rfl,?_⟩;clear b0 f0
    first | refine jS (gL rfl _ _ _) rfl ?_ | trace_state
    refine⟨rfl,_,qH HW7.o 0 _ rfl,?_,HB7.o.setCell (p:=⟨p,0,none⟩) hbase _⟩;exact Kd.FN HN7.o (p:=⟨p,0,none⟩) (fun k hk e=>by have h1:p<k:=hk;have h2:k=p:=e;omega) _
end Go.Proofs.Y.PA

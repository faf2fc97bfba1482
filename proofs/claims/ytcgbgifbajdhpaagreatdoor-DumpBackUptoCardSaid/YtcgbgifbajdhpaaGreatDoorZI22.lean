/- Of the law rZIQDumpBack. -/
import Derived.Test.YtcgbgifbajdhpaaGreatDoorZI7
set_option linter.unusedVariables false
set_option linter.unusedSimpArgs false
set_option maxHeartbeats 8000000
set_option maxRecDepth 100000
namespace Go
abbrev aj:=@List.setIfInBounds_toArray
abbrev aC:=@List.set_cons_succ
abbrev aJ:=@List.set_cons_zero
abbrev aY:=@of_decide_eq_true
abbrev bU:=@eq_true
abbrev iC:=@Nat.le_of_eq
end Go
namespace Go.Proofs.Y.PA
open Go.RowKit Go.Proofs.YW.o7 Go.Proofs.YW.pJ Go.Proofs.YW.pO
attribute [local go_sem] rZ r9 sU sV rX rY sN sO
abbrev q1 := @qh
abbrev q2 := @qg
abbrev q3 := @pU
abbrev q4 := @o8
abbrev q5 := @pz
abbrev q6 := @pF
abbrev q7 := @pW
abbrev qb := @aj
abbrev qc := @aJ
abbrev qd := @aC
theorem Yc {w:World}{g:Nat}{t:TypeId}{a b:Value}(h:w.heap[g]? = some (.cells #[a,b] t (0,0))):w.cell? ⟨g,0,none⟩=some a:=(pq h 0).trans rfl
theorem Yd {w:World}{g:Nat}{t:TypeId}{a b:Value}(h:w.heap[g]? = some (.cells #[a,b] t (0,0))):w.cell? ⟨g,1,none⟩=some b:=(pq h 1).trans rfl
def ql.l0:Nat→Int→Int→List (qJ)→List (qJ)→Int→Int→Option ((List (qJ)))
 | 0,_,_,_,_,_,_=>none
 | k+1,x1,x2,x7,x10,x11,x12=>if x12<x11 then (if 0≤x12 then (if x12<(x10.length:Int) then (if x12<x1 then (if (((pK x10 x12).f0).length:Int)≤10 then (if 0≤(mn (((pK x10 x12).f1).length:Int) x2) then (if (mn (((pK x10 x12).f1).length:Int) x2)≤(((pK x10 x12).f1).length:Int) then (if x7.length<2932031007402 then (ql.l0 k x1 x2 (x7++[(⟨(pK x10 x12).f0,(((pK x10 x12).f1).take ((mn (((pK x10 x12).f1).length:Int) x2):Int).toNat)⟩:qJ)]) x10 x11 (wrap64 (x12+1))) else (none)) else (none)) else (none)) else (ql.l0 k x1 x2 x7 x10 x11 (wrap64 (x12+1)))) else (ql.l0 k x1 x2 x7 x10 x11 (wrap64 (x12+1)))) else (none)) else (none)) else (some x7)
def ql.f (k:Nat)(l0:List (qJ))(a1:Int)(a2:Int):Option ((List (qJ))):=ql.l0 k a1 a2 ([]:List (qJ)) l0 (l0.length:Int) 0
def ql.T6:Bool × List (List Nat × List Nat):=(true,[([],[]),([],[]),([1],[1]),([],[]),([3],[3]),([],[]),([5],[5]),([6],[6]),([],[]),([7,8],[7,8]),([4,9],[4,9]),([2,10],[2,10]),([11],[11]),([0,12],[0,12]),([13,13,0,1,2,3,4,5,6,7,8,9,10,11,12,13],[0,13])])
def ql.B6:List Nat:=[0,0,2,0,8,0,32,96,0,480,1016,2046,4094,8191,16383]
theorem ql.Yi:yR .any (opsOf Tryz.f8 6)=ql.T6:=by kernel_rfl
theorem ql.XA:Dh ql.T6.2 ql.B6=true:=by kernel_rfl
theorem ql.c (k:Nat)(P0_:Nat→Prop)(A0:Option Addr)(c0:Nat)(l0:List (qJ))(a1:Int)(a2:Int)(r:List (qJ))(w:World)(hs0:Kd.V yD 51 w w.heap.size (fun k_=>P0_ k_) (.slice A0 l0.length c0) l0)(h:ql.f k l0 a1 a2=some r) :
 Calls Tryz.prog 8 #[.slice A0 l0.length c0,.int .i64 a1,.int .i64 a2] w fun e w'=>∃ v0_:Value,e = .returned (v0_)∧Kd.N yD 51 w' w.heap.size (fun k_=>(P0_ k_∨w.heap.size≤k_)) v0_ r∧Below w.heap.size w w':=by
 have akp:=Tryz.underlying51;have HO0:=Yu (show Kd.V yD 51 w w.heap.size (fun k_=>(P0_ k_∨w.heap.size≤k_)) (.slice A0 l0.length c0) l0 from Kd.uz hs0 (fun k_ hk => .inl hk));have HB:=Yu (bq w.heap.size w);have H:(ql.l0 k a1 a2 ([]:List (qJ)) l0 (l0.length:Int) 0)=some r:=h;clear h;have H':=Yu H;clear H
 go_enter Tryz.func8,Tryz.ntmps8
 go_wp2
 go_loopg [7,12] k (fun kq v7 v12 w'=>∃ (aan:List (qJ)) (Yy:Int),v12 = .int .i64 Yy∧oZ (ql.l0 kq a1 a2 aan l0 (l0.length:Int) Yy=some r)∧oZ (kq≤k)∧oZ (Kd.N yD 51 w' w.heap.size (fun k_=>(P0_ k_∨w.heap.size≤k_)) v7 aan)∧oZ (Kd.V yD 51 w' w.heap.size (fun k_=>(P0_ k_∨w.heap.size≤k_)∧some k_≠(v7:Value).ownBlock) (.slice A0 l0.length c0) l0)∧oZ (Below w.heap.size w w'))
 case atStart=>exact⟨(([]:List (qJ))),(0),(by first | rfl | (simp;done)|(simp[*];done)),H',⟨aD _⟩,⟨by first | exact Kd.S_nil _ _ _ _ _ | exact Kd.IU _ _ _ _ _ | exact Kd.V_nil _ _ _ _ _ | exact Kd.Q_nil _ _ _ _ _ | exact Kd.ug _ _ _ _ _⟩,⟨by (with_reducible repeat (first | apply Kd.V_alloc | apply Kd.V_drewN | apply Kd.tV));exact Kd.uz HO0.o (fun _ hk=>⟨hk,(by simp[Value.ownBlock])⟩)⟩,⟨by repeat (first|(with_reducible first | exact HB.o | apply q4 | apply q5 | apply q6)|exact HB.o)⟩⟩
 case round=>
  clear H'
  try clear p2
  obtain⟨aan,Yy,rfl,HA,HK1,Zk,YV,HB⟩:=hrel;cases gk with
  | zero=>exact absurd HA.o (by simp[ql.l0])
  | succ k1=>
   have H:=HA.o;clear HA;simp only[ql.l0] at H
   by_cases c4:Yy<(l0.length:Int)
   ·
    rw[ak c4] at H;have aam:decide (Yy<(l0.length:Int))=true:=aM c4;clear c4
    by_cases c5:0≤Yy
    ·
     rw[ak c5] at H;have acH:decide (0≤Yy)=true:=aM c5;clear c5
     by_cases c6:Yy<(l0.length:Int)
     ·
      rw[ak c6] at H;have aec:decide (Yy<(l0.length:Int))=true:=aM c6;clear c6
      by_cases c7:Yy<a1
      ·
       rw[ak c7] at H;have Zi:decide (Yy<a1)=true:=aM c7;clear c7
       by_cases c8:(((pK l0 Yy).f0).length:Int)≤10
       ·
        rw[ak c8] at H;have ZF:decide ((((pK l0 Yy).f0).length:Int)≤10)=true:=aM c8;have aiT:decide (((pK l0 Yy).f0).length≤10)=true:=aM (by omega);clear c8;obtain⟨ji9,agp⟩:∃ j_:Int,(mn (((pK l0 Yy).f1).length:Int) a2)=j_:=⟨_,rfl⟩;replace H:(if 0≤(ji9) then (if (ji9)≤(((pK l0 Yy).f1).length:Int) then (if aan.length<2932031007402 then (ql.l0 k1 a1 a2 (aan++[(⟨(pK l0 Yy).f0,(((pK l0 Yy).f1).take ((ji9):Int).toNat)⟩:qJ)]) l0 (l0.length:Int) (wrap64 (Yy+1))) else (none)) else (none)) else (none))=some r:=by first|(rw[agp] at H;exact H)|(simp only[agp] at H ⊢;exact H)
        have aj6:(if a2<(((pK l0 Yy).f1).length:Int) then a2 else (((pK l0 Yy).f1).length:Int))=ji9:=agp
        by_cases c10:0≤(ji9)
        ·
         rw[ak c10] at H;have adz:=bU c10;have afO:decide (0≤(ji9))=true:=aM c10;clear c10
         by_cases c11:(ji9)≤(((pK l0 Yy).f1).length:Int)
         ·
          rw[ak c11] at H;have Z9:=bU c11;have aer:decide ((ji9)≤(((pK l0 Yy).f1).length:Int))=true:=aM c11;clear c11;obtain⟨acT,ac3⟩:∃ y_:List (qC),y_=(((pK l0 Yy).f1).take ((ji9):Int).toNat):=⟨_,rfl⟩;replace H:(if aan.length<2932031007402 then (ql.l0 k1 a1 a2 (aan++[(⟨(pK l0 Yy).f0,acT⟩:qJ)]) l0 (l0.length:Int) (wrap64 (Yy+1))) else (none))=some r:=by first|(rw[ac3];with_reducible exact H)|(have H2_:=(dS _ _).symm.trans H;rw[ac3];with_reducible exact H2_)|(have H2_:=(dS _ _).symm.trans H;with_reducible exact H2_)|with_reducible exact H | (rw[ac3];exact H)|exact H
          have afQ:=Yu ac3;clear ac3
          by_cases c12:aan.length<2932031007402
          ·
           rw[ak c12] at H;have ahd:=Yu c12;clear c12;obtain⟨ahe,ac4⟩:∃ y_:List (qJ),y_=(aan++[(⟨(pK l0 Yy).f0,acT⟩:qJ)]):=⟨_,rfl⟩;replace H:(ql.l0 k1 a1 a2 ahe l0 (l0.length:Int) (wrap64 (Yy+1)))=some r:=by first|(rw[ac4];with_reducible exact H)|(have H2_:=(dS _ _).symm.trans H;rw[ac4];with_reducible exact H2_)|(have H2_:=(dS _ _).symm.trans H;with_reducible exact H2_)|with_reducible exact H | (rw[ac4];exact H)|exact H
           have ahf:=Yu ac4;clear ac4;have H':=Yu H;clear H;have aaf:0≤(Yy:Int):=aY (by assumption);have aag:Yy<(l0.length:Int):=aY (by assumption);obtain⟨aeB,YR,YS,YP,YO,aeC,aah,aai,Zp,Zq,Zr,Zt⟩:=uY (Kd.wW YV.o).2.2 Yy aaf aag;cases aeC;obtain⟨afR,aaF,aaG,Zj⟩:=Kd.RB YV.o z51 Yy aaf (by first | exact aag | exact aY (by assumption)|(have e_:=(Kd.wW YV.o).1;omega));obtain⟨adP,adQ,adR,adS,rfl,Zd,Ze,Zf,Zg⟩:=Aw aaG;have Y5:=Zj 0 _ rfl;rw[iB] at Y5;replace Y5:=bE (Y5.symm.trans aah);injection Y5 with ZH aaH ZI
           rw[ZH] at Ze;rw[ZI] at Zd;have YL:=Yu (show Kd.V wE 68 _ w.heap.size _ _ ((pK l0 Yy).f0) from Kd.K5 Zd Ze);clear ZH aaH ZI Ze Zd;have Y6:=Zj 1 _ rfl;rw[vF _ _ 1 (by omega)] at Y6;replace Y6:=bE (Y6.symm.trans aai);injection Y6 with ZH aaH ZI
           rw[ZH] at Zg;rw[ZI] at Zf;have YM:=Yu (show Kd.V vk 70 _ w.heap.size _ _ ((pK l0 Yy).f1) from Kd.K5 Zf Zg);clear ZH aaH ZI Zg Zf;clear Zj aaF;have Y7:=Yu Zq;have adT:=Yu Zp;clear Zq Zp;have Y8:=Yu Zt;have acU:=Yu Zr;clear Zt Zr;replace aaf:=bU aaf;replace aag:=bU aag
           try go_wp2_with (first|((with_reducible refine qK (N:=9) rfl ?_);(try (refine rO (by rfl) ?_;dsimp only));refine ru ?hg (N:=9) ?hd (cs := #[.slice none 0 0,.slice none 0 0]) (t:=51) ?hr ?_;(case hd=>rfl);(case hg=>rfl);(case hr=>first|(go_simp;done)|(go_simp;rfl));intro YD hg w13 YI hb;have n0_:=Yu (Kd.wm (Kd.FM (by (with_reducible repeat (first | apply Kd.wR | apply Kd.N_drewN | apply Kd.xX));exact Zk.o) YD (iC hg.symm)) hb);have n1_:=Yu (Kd.xJ (Kd.wo (by (with_reducible repeat (first | apply Kd.V_alloc | apply Kd.V_drewN | apply Kd.tV));exact YV.o) YD (iC hg.symm)) hb);have n2_:=Yu (Kd.xJ (Kd.wo (by (with_reducible repeat (first | apply Kd.V_alloc | apply Kd.V_drewN | apply Kd.tV));exact YL.o) YD (iC hg.symm)) hb);have n3_:=Yu (Kd.xJ (Kd.wo (by (with_reducible repeat (first | apply Kd.V_alloc | apply Kd.V_drewN | apply Kd.tV));exact YM.o) YD (iC hg.symm)) hb);have n4_:=Yu (Kd.pI (by repeat (first|(with_reducible exact Y7.o)|(with_reducible refine Kd.qN ?_ _)|(with_reducible refine Kd.C_drewN ?_ _)|(with_reducible refine Kd.rD ?_)|exact Y7.o)) hb);have n5_:=Yu (Kd.pI (by repeat (first|(with_reducible exact Y8.o)|(with_reducible refine Kd.qN ?_ _)|(with_reducible refine Kd.C_drewN ?_ _)|(with_reducible refine Kd.rD ?_)|exact Y8.o)) hb);have n6_:=Yu (o9 (by repeat (first|(with_reducible first | exact HB.o | apply q4 | apply q5 | apply q6)|exact HB.o)) hb);have n7_:=Yu (YI);have n8_:=Yu ((by rw[hg];exact (pX (by repeat (first|(with_reducible first | exact HB.o | apply q4 | apply q5 | apply q6)|exact HB.o))):w.heap.size≤YD));have n9_:=Yu ((by rw[hg];exact (pX (by repeat (first|(with_reducible first | exact HB.o | apply q4 | apply q5 | apply q6)|exact HB.o))):w.heap.size≤YD));clear Zk;clear YV;clear YL;clear YM;clear Y7;clear Y8;clear HB;have Zk:=n0_;have YV:=n1_;have YL:=n2_;have YM:=n3_;have Y7:=n4_;have Y8:=n5_;have HB:=n6_;have YX:=n7_;have afS:=n8_;have aaj:=n9_;clear n0_ n1_ n2_ n3_ n4_ n5_ n6_ n7_ n8_ n9_;clear hb YI hg;have ah8:=Yc YX.o;have ah9:=Yd YX.o;have aia:=pE YX.o 0;have aib:=pE YX.o 1))
           have n0_:oZ (Kd.N yD 51 ((w13.setCell ⟨YD,0,none⟩ (.slice YR ((pK l0 Yy).f0).length YS)).setCell ⟨YD,1,none⟩ (.slice YP ((pK l0 Yy).f1).length YO)) w.heap.size (fun k_=>(P0_ k_∨w.heap.size≤k_)∧k_≠YD) u7 aan):=⟨by (with_reducible repeat (first | apply Kd.wR | apply Kd.N_drewN | apply Kd.xX));exact Kd.zJ (Kd.FN (p:=⟨YD,1,none⟩) (Kd.FN (p:=⟨YD,0,none⟩) (Kd.zJ Zk.o (fun k_ hk=>(⟨hk,hk.2⟩:_∧k_≠YD))) (fun _ hk=>hk.2) (.slice YR ((pK l0 Yy).f0).length YS)) (fun _ hk=>hk.2) (.slice YP ((pK l0 Yy).f1).length YO)) (fun _ hk=>⟨hk.1.1,hk.1.2⟩)⟩;have n1_:oZ (Kd.V yD 51 ((w13.setCell ⟨YD,0,none⟩ (.slice YR ((pK l0 Yy).f0).length YS)).setCell ⟨YD,1,none⟩ (.slice YP ((pK l0 Yy).f1).length YO)) w.heap.size (fun k_=>(P0_ k_∨w.heap.size≤k_)∧some k_≠(u7:Value).ownBlock∧k_≠YD) (.slice (some aeB) l0.length c0) l0):=⟨by (with_reducible repeat (first | apply Kd.V_alloc | apply Kd.V_drewN | apply Kd.tV));exact Kd.uz (Kd.Bn (p:=⟨YD,1,none⟩) (Kd.Bn (p:=⟨YD,0,none⟩) (Kd.uz YV.o (fun k_ hk=>(⟨hk,hk.2⟩:_∧k_≠YD))) (fun _ hk=>hk.2) (.slice YR ((pK l0 Yy).f0).length YS)) (fun _ hk=>hk.2) (.slice YP ((pK l0 Yy).f1).length YO)) (fun _ hk=>⟨hk.1.1.1,⟨hk.1.1.2,hk.1.2⟩⟩)⟩;have n2_:oZ (Kd.V wE 68 ((w13.setCell ⟨YD,0,none⟩ (.slice YR ((pK l0 Yy).f0).length YS)).setCell ⟨YD,1,none⟩ (.slice YP ((pK l0 Yy).f1).length YO)) w.heap.size (fun k_=>(P0_ k_∨w.heap.size≤k_)∧some k_≠(u7:Value).ownBlock∧k_≠YD) (.slice YR ((pK l0 Yy).f0).length YS) ((pK l0 Yy).f0)):=⟨by (with_reducible repeat (first | apply Kd.V_alloc | apply Kd.V_drewN | apply Kd.tV));exact Kd.uz (Kd.Bn (p:=⟨YD,1,none⟩) (Kd.Bn (p:=⟨YD,0,none⟩) (Kd.uz YL.o (fun k_ hk=>(⟨hk,hk.2⟩:_∧k_≠YD))) (fun _ hk=>hk.2) (.slice YR ((pK l0 Yy).f0).length YS)) (fun _ hk=>hk.2) (.slice YP ((pK l0 Yy).f1).length YO)) (fun _ hk=>⟨hk.1.1.1,⟨hk.1.1.2,hk.1.2⟩⟩)⟩;have n3_:oZ (Kd.V vk 70 ((w13.setCell ⟨YD,0,none⟩ (.slice YR ((pK l0 Yy).f0).length YS)).setCell ⟨YD,1,none⟩ (.slice YP ((pK l0 Yy).f1).length YO)) w.heap.size (fun k_=>(P0_ k_∨w.heap.size≤k_)∧some k_≠(u7:Value).ownBlock∧k_≠YD) (.slice YP ((pK l0 Yy).f1).length YO) ((pK l0 Yy).f1)):=⟨by (with_reducible repeat (first | apply Kd.V_alloc | apply Kd.V_drewN | apply Kd.tV));exact Kd.uz (Kd.Bn (p:=⟨YD,1,none⟩) (Kd.Bn (p:=⟨YD,0,none⟩) (Kd.uz YM.o (fun k_ hk=>(⟨hk,hk.2⟩:_∧k_≠YD))) (fun _ hk=>hk.2) (.slice YR ((pK l0 Yy).f0).length YS)) (fun _ hk=>hk.2) (.slice YP ((pK l0 Yy).f1).length YO)) (fun _ hk=>⟨hk.1.1.1,⟨hk.1.1.2,hk.1.2⟩⟩)⟩;have n4_:oZ (((w13.setCell ⟨YD,0,none⟩ (.slice YR ((pK l0 Yy).f0).length YS)).setCell ⟨YD,1,none⟩ (.slice YP ((pK l0 Yy).f1).length YO)).heap[YD]? = some (.cells #[.slice YR ((pK l0 Yy).f0).length YS,.slice YP ((pK l0 Yy).f1).length YO] 51 (0,0))):=⟨by (with_reducible repeat (first | refine q1 ?_ _ | refine q2 ?_ | refine q3 ?_ _));refine qH (cs := #[.slice YR ((pK l0 Yy).f0).length YS,.slice none 0 0]) ?_ 1 _ rfl;(with_reducible repeat (first | refine q1 ?_ _ | refine q2 ?_ | refine q3 ?_ _));refine qH (cs := #[.slice none 0 0,.slice none 0 0]) ?_ 0 _ rfl;(with_reducible repeat (first | refine q1 ?_ _ | refine q2 ?_ | refine q3 ?_ _));exact YX.o⟩;have n5_:oZ (Below w.heap.size w ((w13.setCell ⟨YD,0,none⟩ (.slice YR ((pK l0 Yy).f0).length YS)).setCell ⟨YD,1,none⟩ (.slice YP ((pK l0 Yy).f1).length YO))):=⟨by repeat (first|(with_reducible first | exact HB.o | apply q4 | apply q5 | apply q6 | refine q7 ?_ aaj.o)|exact HB.o)⟩
           (try clear Zk)
           (try clear YV)
           (try clear YL)
           (try clear YM)
           (try clear YX)
           (try clear HB)
           generalize ((w13.setCell ⟨YD,0,none⟩ (.slice YR ((pK l0 Yy).f0).length YS)).setCell ⟨YD,1,none⟩ (.slice YP ((pK l0 Yy).f1).length YO))=w15 at n0_ n1_ n2_ n3_ n4_ n5_ ⊢;have Zk:=n0_;have YV:=n1_;have YL:=n2_;have YM:=n3_;have YX:=n4_;have HB:=n5_;clear n0_ n1_ n2_ n3_ n4_ n5_;have n0_:=Yu (Kd.xX Zk.o);have n1_:=Yu (Kd.tV YV.o);have n2_:=Yu (Kd.tV YL.o);have n3_:=Yu (Kd.tV YM.o);have n4_:=Yu (q2 YX.o);have n5_:=Yu (q6 HB.o);clear Zk;clear YV;clear YL;clear YM;clear YX;clear HB;have Zk:=n0_;have YV:=n1_;have YL:=n2_;have YM:=n3_;have YX:=n4_;have HB:=n5_;clear n0_ n1_ n2_ n3_ n4_ n5_;have q17:((ji9):Int)≤((((pK l0 Yy).f1).length:Int):Int):=aY (by assumption);obtain⟨akq,afT,_,ahg,_⟩:=info_parts yj;have adU:((pK l0 Yy).f1).length≤YO:=acU.o;have ahh:Kd.F vk _ _ YP ((pK l0 Yy).f1).length ((pK l0 Yy).f1):=(Kd.RA (base:=w.heap.size) YM.o).2.2;have agq:=Gc (P:=Tryz.prog) 49 70 .i64 Tryz.underlying49 afT YP ((pK l0 Yy).f1).length YO (ji9) (aY (by assumption)) q17 adU;have agr:=Kd.V8 (m:=((ji9):Int).toNat) ahh (by omega);have ags:acT.length=((ji9):Int).toNat:=(by rw[afQ.o,bG];omega);rw[← afQ.o] at agr;rw[← ags] at agq;have acD:=Yu (show Kd.V vk 70 _ w.heap.size _ (.slice YP acT.length YO) acT from Kd.K5 (by omega) agr);have aj7:=Yu (show acT.length≤YO from by omega);clear agr ahh adU afT ahg;have akr:=Yu ags;clear ags;replace q17:=bU q17;refine Ee (n:=15) (S:=fun w'=>w'.cell? ⟨YD,0,none⟩=some (.slice YR ((pK l0 Yy).f0).length YS)∧w'.cell? ⟨YD,1,none⟩=some (.slice YP ((pK l0 Yy).f1).length YO)) (ds:=[]) #[false,false,false,false,false,false,false,false,false,false,false,false,false,false,false] (by kernel_rfl) rfl rfl ⟨(pq YX.o 0).trans rfl,(pq YX.o 1).trans rfl⟩ (fun hHeld=>?_);refine Rb ql.Yi ql.XA (fun HT_ HW_=>?_);generalize w15.drew=w16 at Zk YV YL YM YX HB acD hHeld ⊢;refine rJ (i:=0) (N:=some 26) (v:=?_) (a':=?_) #[true,false,false,false,false,false,false,false,false,false,false,false,false,false,false] rfl rfl (yO HT_.o (by kernel_rfl)) (fun _ _ _ h=>h) (Or.inl ⟨by rfl,?_⟩) ?_ ?_
           rotate_left
           ·
            intro w';go_simp
            with_reducible rfl
           rotate_left
           ·
            simp only[Act.put,qb,qc,qd,rH,tu];rfl
           refine rJ (i:=1) (N:=some 27) (v:=?_) (a':=?_) #[true,true,false,false,false,false,false,false,false,false,false,false,false,false,false] rfl rfl (yO HT_.o (by kernel_rfl)) (fun _ _ _ h=>h) (Or.inl ⟨by rfl,?_⟩) ?_ ?_
           rotate_left
           ·
            intro w';go_simp
            with_reducible rfl
           rotate_left
           ·
            simp only[Act.put,qb,qc,qd,rH,tu];rfl
           refine rJ (i:=3) (N:=some 29) (v:=?_) (a':=?_) #[true,true,false,true,false,false,false,false,false,false,false,false,false,false,false] rfl rfl (yO HT_.o (by kernel_rfl)) (fun _ _ _ h=>h) (Or.inl ⟨by rfl,?_⟩) ?_ ?_
           rotate_left
           ·
            intro w';go_simp
            with_reducible rfl
           rotate_left
           ·
            simp only[Act.put,qb,qc,qd,rH,tu];rfl
           refine rJ (i:=5) (N:=some 31) (v:=?_) (a':=?_) #[true,true,false,true,false,true,false,false,false,false,false,false,false,false,false] rfl rfl (yO HT_.o (by kernel_rfl)) (fun _ _ _ h=>h) (Or.inl ⟨by rfl,?_⟩) ?_ ?_
           rotate_left
           ·
            intro w';go_simp
            with_reducible rfl
           rotate_left
           ·
            simp only[Act.put,qb,qc,qd,rH,tu];rfl
           refine rJ (i:=8) (N:=some 34) (v:=?_) (a':=?_) #[true,true,false,true,false,true,false,false,true,false,false,false,false,false,false] rfl rfl (yO HT_.o (by kernel_rfl)) (fun _ _ _ h=>h) (Or.inl ⟨by rfl,?_⟩) ?_ ?_
           rotate_left
           ·
            intro w';go_simp
            with_reducible rfl
           rotate_left
           ·
            simp only[Act.put,qb,qc,qd,rH,tu];rfl
           refine Bw (i:=2) (N:=some 28) (v:=?_) (a':=?_) #[true,true,true,true,false,true,false,false,true,false,false,false,false,false,false] rfl rfl (H7 HT_.o HW_.o (by kernel_rfl)) (fun _ _ _ h=>h) (Or.inl ⟨by rfl,?_⟩) hHeld ?_ ?_
           rotate_left
           ·
            rintro w' ⟨s0,s1⟩;go_simp
            with_reducible rfl
           rotate_left
           ·
            simp only[Act.put,qb,qc,qd,rH,tu];rfl
           refine Bw (i:=4) (N:=some 30) (v:=?_) (a':=?_) #[true,true,true,true,true,true,false,false,true,false,false,false,false,false,false] rfl rfl (H7 HT_.o HW_.o (by kernel_rfl)) (fun _ _ _ h=>h) (Or.inl ⟨by rfl,?_⟩) hHeld ?_ ?_
           rotate_left
           ·
            rintro w' ⟨s0,s1⟩;go_simp
            with_reducible rfl
           rotate_left
           ·
            simp only[Act.put,qb,qc,qd,rH,tu];rfl
           refine Bw (i:=6) (N:=some 32) (v:=?_) (a':=?_) #[true,true,true,true,true,true,true,false,true,false,false,false,false,false,false] rfl rfl (H7 HT_.o HW_.o (by kernel_rfl)) (fun _ _ _ h=>h) (Or.inl ⟨by rfl,?_⟩) hHeld ?_ ?_
           rotate_left
           ·
            rintro w' ⟨s0,s1⟩;go_simp
            with_reducible rfl
           rotate_left
           ·
            simp only[Act.put,qb,qc,qd,rH,tu];rfl
           refine rJ (i:=7) (N:=some 33) (v:=?_) (a':=?_) #[true,true,true,true,true,true,true,true,true,false,false,false,false,false,false] rfl rfl (yO HT_.o (by kernel_rfl)) (fun _ _ _ h=>h) (Or.inl ⟨by rfl,?_⟩) ?_ ?_
           rotate_left
           ·
            intro w';go_simp
            with_reducible rfl
           rotate_left
           ·
            simp only[Act.put,qb,qc,qd,rH,tu];rfl
           refine rJ (i:=9) (N:=some 35) (v:=?_) (a':=?_) #[true,true,true,true,true,true,true,true,true,true,false,false,false,false,false] rfl rfl (yO HT_.o (by kernel_rfl)) (fun _ _ _ h=>h) (Or.inl ⟨by rfl,?_⟩) ?_ ?_
           rotate_left
           ·
            intro w';go_simp
            with_reducible rfl
           rotate_left
           ·
            simp only[Act.put,qb,qc,qd,rH,tu];rfl
           refine rJ (i:=10) (N:=some 36) (v:=?_) (a':=?_) #[true,true,true,true,true,true,true,true,true,true,true,false,false,false,false] rfl rfl (yO HT_.o (by kernel_rfl)) (fun _ _ _ h=>h) (Or.inl ⟨by rfl,?_⟩) ?_ ?_
           rotate_left
           ·
            intro w';go_simp
            with_reducible rfl
           rotate_left
           ·
            simp only[Act.put,qb,qc,qd,rH,tu];rfl
           refine rJ (i:=11) (N:=some 37) (v:=?_) (a':=?_) #[true,true,true,true,true,true,true,true,true,true,true,true,false,false,false] rfl rfl (yO HT_.o (by kernel_rfl)) (fun _ _ _ h=>h) (Or.inl ⟨by rfl,?_⟩) ?_ ?_
           rotate_left
           ·
            intro w';go_simp
            with_reducible rfl
           rotate_left
           ·
            simp only[Act.put,qb,qc,qd,rH,tu];rfl
           refine ER (i:=12) (N:=some 38) #[true,true,true,true,true,true,true,true,true,true,true,true,true,false,false] rfl rfl (Tt HT_.o (by kernel_rfl)) (by decide) (fun K hK=>?_);refine Ad (w1:=?_) (v:=?_) (by rfl) rfl ?_ ?_
           rotate_left 2
           ·
            go_simp
            constructor
            ·
             rfl
            ·
             rfl
           refine hK.o _ _ ⟨(pq (q3 YX.o _) 0).trans rfl,(pq (q3 YX.o _) 1).trans rfl⟩ (fun hHeld=>?_);clear hK K;refine vv (a':=?_) ?_ ?_
           rotate_left
           ·
            show Act.put _ (some 38) _=_;simp only[Act.put,qb,qc,qd,rH,tu];rfl
           refine ER (i:=13) (N:=some 39) #[true,true,true,true,true,true,true,true,true,true,true,true,true,true,false] rfl rfl (Tt HT_.o (by kernel_rfl)) (by decide) (fun K hK=>?_);refine Kd.Bj yD (w0:=w) w.heap.size (by rfl) (.tmp 26) (.tmp 38) 22 51 (.agg #[(.slice none 0 0),(.slice none 0 0)]) 48 rfl Tryz.underlying22 zl rfl (by decide) (by omega) u7 aan (⟨(pK l0 Yy).f0,acT⟩:qJ) [.slice YR ((pK l0 Yy).f0).length YS,.slice YP acT.length YO] (fun k_=>(P0_ k_∨w.heap.size≤k_)∧k_≠YD) (fun k_=>((fun k_=>(P0_ k_∨w.heap.size≤k_)∧k_≠YD)) k_∧some k_≠(u7:Value).ownBlock) rfl rfl ?aP (fun _ hk=>hk) ?aF ?aO ?aB ?aS ?aL ?_
           (case aP=>exact (U5 _ _ (⟨(pK l0 Yy).f0,acT⟩:qJ) (Kd.wW (Kd.uz (ok':=(fun k_=>((fun k_=>(P0_ k_∨w.heap.size≤k_)∧k_≠YD)) k_∧some k_≠(u7:Value).ownBlock)) (YL.o) (fun k_ hk=>⟨⟨hk.1,hk.2.2⟩,hk.2.1⟩))).2.1 (Kd.X9 (Kd.uz (ok':=(fun k_=>((fun k_=>(P0_ k_∨w.heap.size≤k_)∧k_≠YD)) k_∧some k_≠(u7:Value).ownBlock)) (YL.o) (fun k_ hk=>⟨⟨hk.1,hk.2.2⟩,hk.2.1⟩))) (Kd.wW (Kd.uz (ok':=(fun k_=>((fun k_=>(P0_ k_∨w.heap.size≤k_)∧k_≠YD)) k_∧some k_≠(u7:Value).ownBlock)) (acD.o) (fun k_ hk=>⟨⟨hk.1,hk.2.2⟩,hk.2.1⟩))).2.1 (Kd.X9 (Kd.uz (ok':=(fun k_=>((fun k_=>(P0_ k_∨w.heap.size≤k_)∧k_≠YD)) k_∧some k_≠(u7:Value).ownBlock)) (acD.o) (fun k_ hk=>⟨⟨hk.1,hk.2.2⟩,hk.2.1⟩)))))
           (case aB=>exact (by repeat (first|(with_reducible first | exact HB.o | apply q4 | apply q5 | apply q6 | refine q7 ?_ aaj.o)|exact HB.o)))
           (case aF=>exact (fun k_ hk=>⟨(.inr (bM (pX (by repeat (first|(with_reducible first | exact HB.o | apply q4 | apply q5 | apply q6 | refine q7 ?_ aaj.o)|exact HB.o))) hk)),Kd.WG (g:=YD) (o := .cells #[.slice YR ((pK l0 Yy).f0).length YS,.slice YP ((pK l0 Yy).f1).length YO] 51 (0,0)) (by (with_reducible repeat (first | refine q1 ?_ _ | refine q2 ?_ | refine q3 ?_ _));exact YX.o) k_ hk⟩))
           (case aO=>exact (by (with_reducible repeat (first | apply Kd.wR | apply Kd.N_drewN | apply Kd.xX));exact Zk.o))
           (case aS=>exact (pX (by repeat (first|(with_reducible first | exact HB.o | apply q4 | apply q5 | apply q6 | refine q7 ?_ aaj.o)|exact HB.o))))
           (case aL=>have:=ahd.o;omega)
           intro v109 w18 ho hb hg hat;rw[← ahf.o] at ho;have n0_:=Yu (Kd.Cj (ok:=(fun k_=>(P0_ k_∨w.heap.size≤k_)∧k_≠YD)) (by (with_reducible repeat (first | apply Kd.V_alloc | apply Kd.V_drewN | apply Kd.tV));exact Kd.uz YV.o (fun _ hk=>⟨⟨hk.1,hk.2.2⟩,hk.2.1⟩)) hg hat);have n1_:=Yu (Kd.Cj (ok:=(fun k_=>(P0_ k_∨w.heap.size≤k_)∧k_≠YD)) (by (with_reducible repeat (first | apply Kd.V_alloc | apply Kd.V_drewN | apply Kd.tV));exact Kd.uz YL.o (fun _ hk=>⟨⟨hk.1,hk.2.2⟩,hk.2.1⟩)) hg hat);have n2_:=Yu (Kd.Cj (ok:=(fun k_=>(P0_ k_∨w.heap.size≤k_)∧k_≠YD)) (by (with_reducible repeat (first | apply Kd.V_alloc | apply Kd.V_drewN | apply Kd.tV));exact Kd.uz YM.o (fun _ hk=>⟨⟨hk.1,hk.2.2⟩,hk.2.1⟩)) hg hat);have n3_:=Yu (rQ (g:=YD) (o := .cells #[.slice YR ((pK l0 Yy).f0).length YS,.slice YP ((pK l0 Yy).f1).length YO] 51 (0,0)) (by (with_reducible repeat (first | refine q1 ?_ _ | refine q2 ?_ | refine q3 ?_ _));exact YX.o) hg (Kd.Wi Zk.o (fun _ hk=>hk.2)));have n4_:=Yu (Kd.Cj (ok:=(fun k_=>(P0_ k_∨w.heap.size≤k_)∧k_≠YD)) (by (with_reducible repeat (first | apply Kd.V_alloc | apply Kd.V_drewN | apply Kd.tV));exact Kd.uz acD.o (fun _ hk=>⟨⟨hk.1,hk.2.2⟩,hk.2.1⟩)) hg hat);have n5_:=Yu (hb);have n6_:=Yu (ho);clear YV;clear YL;clear YM;clear YX;clear acD;clear HB;clear Zk;have YV:=n0_;have YL:=n1_;have YM:=n2_;have YX:=n3_;have acD:=n4_;have HB:=n5_;have ahi:=n6_;clear n0_ n1_ n2_ n3_ n4_ n5_ n6_;clear ho hb hg hat;refine hK.o _ _ ⟨(pq YX.o 0).trans rfl,(pq YX.o 1).trans rfl⟩ (fun hHeld=>?_);clear hK K;refine vv (a':=?_) ?_ ?_
           rotate_left
           ·
            show Act.put _ (some 39) _=_;simp only[Act.put,qb,qc,qd,rH,tu];rfl
           refine rJ (i:=14) (N:=some 7) (v:=?_) (a':=?_) #[true,true,true,true,true,true,true,true,true,true,true,true,true,true,true] rfl rfl (yO HT_.o (by kernel_rfl)) (fun _ _ _ h=>h) (Or.inl ⟨by rfl,?_⟩) ?_ ?_
           rotate_left
           ·
            intro w';go_simp
            with_reducible rfl
           rotate_left
           ·
            simp only[Act.put,qb,qc,qd,rH,tu];rfl
           refine Jb (UY HT_.o (by kernel_rfl)) ?_
           try go_wp2
           go_roundg k1
           case measure=>have:=HK1.o;omega
           case rel=>exact⟨(ahe),(wrap64 (Yy+1)),(by first | rfl | (simp;done)|(simp[*];done)),H',⟨by have:=HK1.o;omega⟩,⟨by (with_reducible repeat (first | apply Kd.wR | apply Kd.N_drewN | apply Kd.xX));exact Kd.zJ ahi.o (fun _ hk=>hk.1)⟩,⟨by (with_reducible repeat (first | apply Kd.V_alloc | apply Kd.V_drewN | apply Kd.tV));exact Kd.uz YV.o (fun _ hk=>⟨hk.1.1,hk.2⟩)⟩,⟨by repeat (first|(with_reducible first | exact HB.o | apply q4 | apply q5 | apply q6 | refine q7 ?_ aaj.o)|exact HB.o)⟩⟩
          ·
           rw[aK c12] at H;exact absurd H (by simp)
         ·
          rw[aK c11] at H;exact absurd H (by simp)
        ·
         rw[aK c10] at H;exact absurd H (by simp)
       ·
        rw[aK c8] at H;have ZF:decide ((((pK l0 Yy).f0).length:Int)≤10)=false:=aN c8;have aiT:decide (((pK l0 Yy).f0).length≤10)=false:=aN (by omega);clear c8;have H':=Yu H;clear H;have aaf:0≤(Yy:Int):=aY (by assumption);have aag:Yy<(l0.length:Int):=aY (by assumption);obtain⟨aeB,YR,YS,YP,YO,aeC,aah,aai,Zp,Zq,Zr,Zt⟩:=uY (Kd.wW YV.o).2.2 Yy aaf aag;cases aeC;obtain⟨afR,aaF,aaG,Zj⟩:=Kd.RB YV.o z51 Yy aaf (by first | exact aag | exact aY (by assumption)|(have e_:=(Kd.wW YV.o).1;omega));obtain⟨adP,adQ,adR,adS,rfl,Zd,Ze,Zf,Zg⟩:=Aw aaG;have Y5:=Zj 0 _ rfl;rw[iB] at Y5;replace Y5:=bE (Y5.symm.trans aah);injection Y5 with ZH aaH ZI
        rw[ZH] at Ze;rw[ZI] at Zd;have YL:=Yu (show Kd.V wE 68 _ w.heap.size _ _ ((pK l0 Yy).f0) from Kd.K5 Zd Ze);clear ZH aaH ZI Ze Zd;have Y6:=Zj 1 _ rfl;rw[vF _ _ 1 (by omega)] at Y6;replace Y6:=bE (Y6.symm.trans aai);injection Y6 with ZH aaH ZI
        rw[ZH] at Zg;rw[ZI] at Zf;have YM:=Yu (show Kd.V vk 70 _ w.heap.size _ _ ((pK l0 Yy).f1) from Kd.K5 Zf Zg);clear ZH aaH ZI Zg Zf;clear Zj aaF;have Y7:=Yu Zq;have adT:=Yu Zp;clear Zq Zp;have Y8:=Yu Zt;have acU:=Yu Zr;clear Zt Zr;replace aaf:=bU aaf;replace aag:=bU aag
        go_wp2_with (first|((with_reducible refine qK (N:=9) rfl ?_);(try (refine rO (by rfl) ?_;dsimp only));refine ru ?hg (N:=9) ?hd (cs := #[.slice none 0 0,.slice none 0 0]) (t:=51) ?hr ?_;(case hd=>rfl);(case hg=>rfl);(case hr=>first|(go_simp;done)|(go_simp;rfl));intro YD hg w19 YI hb;have n0_:=Yu (Kd.wm (Kd.FM (by (with_reducible repeat (first | apply Kd.wR | apply Kd.N_drewN | apply Kd.xX));exact Zk.o) YD (iC hg.symm)) hb);have n1_:=Yu (Kd.xJ (Kd.wo (by (with_reducible repeat (first | apply Kd.V_alloc | apply Kd.V_drewN | apply Kd.tV));exact YV.o) YD (iC hg.symm)) hb);have n2_:=Yu (Kd.xJ (Kd.wo (by (with_reducible repeat (first | apply Kd.V_alloc | apply Kd.V_drewN | apply Kd.tV));exact YL.o) YD (iC hg.symm)) hb);have n3_:=Yu (Kd.xJ (Kd.wo (by (with_reducible repeat (first | apply Kd.V_alloc | apply Kd.V_drewN | apply Kd.tV));exact YM.o) YD (iC hg.symm)) hb);have n4_:=Yu (Kd.pI (by repeat (first|(with_reducible exact Y7.o)|(with_reducible refine Kd.qN ?_ _)|(with_reducible refine Kd.C_drewN ?_ _)|(with_reducible refine Kd.rD ?_)|exact Y7.o)) hb);have n5_:=Yu (Kd.pI (by repeat (first|(with_reducible exact Y8.o)|(with_reducible refine Kd.qN ?_ _)|(with_reducible refine Kd.C_drewN ?_ _)|(with_reducible refine Kd.rD ?_)|exact Y8.o)) hb);have n6_:=Yu (o9 (by repeat (first|(with_reducible first | exact HB.o | apply q4 | apply q5 | apply q6)|exact HB.o)) hb);have n7_:=Yu (YI);have n8_:=Yu ((by rw[hg];exact (pX (by repeat (first|(with_reducible first | exact HB.o | apply q4 | apply q5 | apply q6)|exact HB.o))):w.heap.size≤YD));have n9_:=Yu ((by rw[hg];exact (pX (by repeat (first|(with_reducible first | exact HB.o | apply q4 | apply q5 | apply q6)|exact HB.o))):w.heap.size≤YD));clear Zk;clear YV;clear YL;clear YM;clear Y7;clear Y8;clear HB;have Zk:=n0_;have YV:=n1_;have YL:=n2_;have YM:=n3_;have Y7:=n4_;have Y8:=n5_;have HB:=n6_;have YX:=n7_;have afS:=n8_;have aaj:=n9_;clear n0_ n1_ n2_ n3_ n4_ n5_ n6_ n7_ n8_ n9_;clear hb YI hg;have acK:=Yc YX.o;have acL:=Yd YX.o;have acM:=pE YX.o 0;have acN:=pE YX.o 1))
        go_roundg k1
        case measure=>have:=HK1.o;omega
        case rel=>exact⟨(aan),(wrap64 (Yy+1)),(by first | rfl | (simp;done)|(simp[*];done)),H',⟨by have:=HK1.o;omega⟩,⟨by (with_reducible repeat (first | apply Kd.wR | apply Kd.N_drewN | apply Kd.xX));exact Kd.zJ (Kd.FN (p:=⟨YD,1,none⟩) (Kd.FN (p:=⟨YD,0,none⟩) (Kd.zJ Zk.o (fun k_ hk=>(⟨hk,hk.2⟩:_∧k_≠YD))) (fun _ hk=>hk.2) (.slice YR ((pK l0 Yy).f0).length YS)) (fun _ hk=>hk.2) (.slice YP ((pK l0 Yy).f1).length YO)) (fun _ hk=>hk.1.1)⟩,⟨by (with_reducible repeat (first | apply Kd.V_alloc | apply Kd.V_drewN | apply Kd.tV));exact Kd.uz (Kd.Bn (p:=⟨YD,1,none⟩) (Kd.Bn (p:=⟨YD,0,none⟩) (Kd.uz YV.o (fun k_ hk=>(⟨hk,hk.2⟩:_∧k_≠YD))) (fun _ hk=>hk.2) (.slice YR ((pK l0 Yy).f0).length YS)) (fun _ hk=>hk.2) (.slice YP ((pK l0 Yy).f1).length YO)) (fun _ hk=>⟨hk.1.1.1,hk.1.1.2⟩)⟩,⟨by repeat (first|(with_reducible first | exact HB.o | apply q4 | apply q5 | apply q6 | refine q7 ?_ aaj.o)|exact HB.o)⟩⟩
      ·
       rw[aK c7] at H;have Zi:decide (Yy<a1)=false:=aN c7;clear c7;have H':=Yu H;clear H;have aaf:0≤(Yy:Int):=aY (by assumption);have aag:Yy<(l0.length:Int):=aY (by assumption);obtain⟨aeB,YR,YS,YP,YO,aeC,aah,aai,Zp,Zq,Zr,Zt⟩:=uY (Kd.wW YV.o).2.2 Yy aaf aag;cases aeC;obtain⟨afR,aaF,aaG,Zj⟩:=Kd.RB YV.o z51 Yy aaf (by first | exact aag | exact aY (by assumption)|(have e_:=(Kd.wW YV.o).1;omega));obtain⟨adP,adQ,adR,adS,rfl,Zd,Ze,Zf,Zg⟩:=Aw aaG;have Y5:=Zj 0 _ rfl;rw[iB] at Y5;replace Y5:=bE (Y5.symm.trans aah);injection Y5 with ZH aaH ZI
       rw[ZH] at Ze;rw[ZI] at Zd;have YL:=Yu (show Kd.V wE 68 _ w.heap.size _ _ ((pK l0 Yy).f0) from Kd.K5 Zd Ze);clear ZH aaH ZI Ze Zd;have Y6:=Zj 1 _ rfl;rw[vF _ _ 1 (by omega)] at Y6;replace Y6:=bE (Y6.symm.trans aai);injection Y6 with ZH aaH ZI
       rw[ZH] at Zg;rw[ZI] at Zf;have YM:=Yu (show Kd.V vk 70 _ w.heap.size _ _ ((pK l0 Yy).f1) from Kd.K5 Zf Zg);clear ZH aaH ZI Zg Zf;clear Zj aaF;have Y7:=Yu Zq;have adT:=Yu Zp;clear Zq Zp;have Y8:=Yu Zt;have acU:=Yu Zr;clear Zt Zr;replace aaf:=bU aaf;replace aag:=bU aag
       go_wp2_with (first|((with_reducible refine qK (N:=9) rfl ?_);(try (refine rO (by rfl) ?_;dsimp only));refine ru ?hg (N:=9) ?hd (cs := #[.slice none 0 0,.slice none 0 0]) (t:=51) ?hr ?_;(case hd=>rfl);(case hg=>rfl);(case hr=>first|(go_simp;done)|(go_simp;rfl));intro YD hg w21 YI hb;have n0_:=Yu (Kd.wm (Kd.FM (by (with_reducible repeat (first | apply Kd.wR | apply Kd.N_drewN | apply Kd.xX));exact Zk.o) YD (iC hg.symm)) hb);have n1_:=Yu (Kd.xJ (Kd.wo (by (with_reducible repeat (first | apply Kd.V_alloc | apply Kd.V_drewN | apply Kd.tV));exact YV.o) YD (iC hg.symm)) hb);have n2_:=Yu (Kd.xJ (Kd.wo (by (with_reducible repeat (first | apply Kd.V_alloc | apply Kd.V_drewN | apply Kd.tV));exact YL.o) YD (iC hg.symm)) hb);have n3_:=Yu (Kd.xJ (Kd.wo (by (with_reducible repeat (first | apply Kd.V_alloc | apply Kd.V_drewN | apply Kd.tV));exact YM.o) YD (iC hg.symm)) hb);have n4_:=Yu (Kd.pI (by repeat (first|(with_reducible exact Y7.o)|(with_reducible refine Kd.qN ?_ _)|(with_reducible refine Kd.C_drewN ?_ _)|(with_reducible refine Kd.rD ?_)|exact Y7.o)) hb);have n5_:=Yu (Kd.pI (by repeat (first|(with_reducible exact Y8.o)|(with_reducible refine Kd.qN ?_ _)|(with_reducible refine Kd.C_drewN ?_ _)|(with_reducible refine Kd.rD ?_)|exact Y8.o)) hb);have n6_:=Yu (o9 (by repeat (first|(with_reducible first | exact HB.o | apply q4 | apply q5 | apply q6)|exact HB.o)) hb);have n7_:=Yu (YI);have n8_:=Yu ((by rw[hg];exact (pX (by repeat (first|(with_reducible first | exact HB.o | apply q4 | apply q5 | apply q6)|exact HB.o))):w.heap.size≤YD));have n9_:=Yu ((by rw[hg];exact (pX (by repeat (first|(with_reducible first | exact HB.o | apply q4 | apply q5 | apply q6)|exact HB.o))):w.heap.size≤YD));clear Zk;clear YV;clear YL;clear YM;clear Y7;clear Y8;clear HB;have Zk:=n0_;have YV:=n1_;have YL:=n2_;have YM:=n3_;have Y7:=n4_;have Y8:=n5_;have HB:=n6_;have YX:=n7_;have afS:=n8_;have aaj:=n9_;clear n0_ n1_ n2_ n3_ n4_ n5_ n6_ n7_ n8_ n9_;clear hb YI hg;have aic:=Yc YX.o;have aie:=Yd YX.o;have aif:=pE YX.o 0;have aii:=pE YX.o 1))
       go_roundg k1
       case measure=>have:=HK1.o;omega
       case rel=>exact⟨(aan),(wrap64 (Yy+1)),(by first | rfl | (simp;done)|(simp[*];done)),H',⟨by have:=HK1.o;omega⟩,⟨by (with_reducible repeat (first | apply Kd.wR | apply Kd.N_drewN | apply Kd.xX));exact Kd.zJ (Kd.FN (p:=⟨YD,1,none⟩) (Kd.FN (p:=⟨YD,0,none⟩) (Kd.zJ Zk.o (fun k_ hk=>(⟨hk,hk.2⟩:_∧k_≠YD))) (fun _ hk=>hk.2) (.slice YR ((pK l0 Yy).f0).length YS)) (fun _ hk=>hk.2) (.slice YP ((pK l0 Yy).f1).length YO)) (fun _ hk=>hk.1.1)⟩,⟨by (with_reducible repeat (first | apply Kd.V_alloc | apply Kd.V_drewN | apply Kd.tV));exact Kd.uz (Kd.Bn (p:=⟨YD,1,none⟩) (Kd.Bn (p:=⟨YD,0,none⟩) (Kd.uz YV.o (fun k_ hk=>(⟨hk,hk.2⟩:_∧k_≠YD))) (fun _ hk=>hk.2) (.slice YR ((pK l0 Yy).f0).length YS)) (fun _ hk=>hk.2) (.slice YP ((pK l0 Yy).f1).length YO)) (fun _ hk=>⟨hk.1.1.1,hk.1.1.2⟩)⟩,⟨by repeat (first|(with_reducible first | exact HB.o | apply q4 | apply q5 | apply q6 | refine q7 ?_ aaj.o)|exact HB.o)⟩⟩
     ·
      rw[aK c6] at H;exact absurd H (by simp)
    ·
     rw[aK c5] at H;exact absurd H (by simp)
   ·
    rw[aK c4] at H;have aam:decide (Yy<(l0.length:Int))=false:=aN c4;clear c4;obtain rfl:=bE H;go_wp2;go_ret;exact⟨_,by first | rfl | (simp[qw,qx]<;>rfl)|(simp[*,qw,qx]<;>rfl),by (with_reducible repeat (first | apply Kd.wR | apply Kd.N_drewN | apply Kd.xX));exact Zk.o,by repeat (first|(with_reducible first | exact HB.o | apply q4 | apply q5 | apply q6)|exact HB.o)⟩
end Go.Proofs.Y.PA

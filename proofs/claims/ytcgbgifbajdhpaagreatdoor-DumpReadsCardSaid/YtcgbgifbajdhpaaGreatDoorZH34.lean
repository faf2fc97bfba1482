/- Of the law ZHQDumpReads. -/
import Derived.Test.YtcgbgifbajdhpaaGreatDoorZH28
set_option linter.unusedVariables false
set_option linter.unusedSimpArgs false
set_option maxHeartbeats 16000000
set_option maxRecDepth 1000000
namespace Go.Proofs.Y.PA
open Go.RowKit Go.Proofs.Y.G Go.Proofs.YW.oO Go.Proofs.YW.pq Go.Proofs.YW.pz
theorem XL {w:World}{vb:Nat}{c0 c1:Value}(hv:w.heap[vb]? = some (.cells #[c0,c1] 51 (0,0)))(h0:c0.oneCell'=true)(h1:c1.oneCell'=true):(Kd.raw 2).C w (some ⟨vb,0,none⟩) 1 [[c0,c1]]:=
 ⟨rfl,by omega,fun _=>⟨⟨vb,0,none⟩,rfl,fun j p hj=>by
  rcases j with _ | j
  ·simp at hj;subst hj;refine⟨[c0,c1],rfl,⟨rfl,rfl,fun u hu=>by simp at hu;rcases hu with rfl | rfl<;>assumption⟩,fun i u hi=>?_⟩;rw[kC,oQ hv,dK,gH,dK]
   simpa using hi
  ·simp at hj⟩⟩
theorem Yt.c (A:Option Addr)(c n:Nat)(l:List ru)(w:World)(hn:l.length=n)(hr:Kd.C Bc w A n l)(hlen:n≤100000)(htot:tot l≤1000000)(hlab:∀ x∈l,x.f0.length≤1000000) :
 Calls Tryz.prog 24 #[.slice A n c] w fun e w'=>∃ (A':Option Addr) (c':Nat),e = .returned (.slice A' (joinL l).length c')∧(joinL l).length≤c'∧Kd.C Bc w' A' (joinL l).length (joinL l)∧Below w.heap.size w w':=by
 subst hn;have mixed:Tryz.prog.follows .mixedOrders=true:=by kernel_rfl
 have HR:=Y7 hr;have HT:=Y7 htot;have agF:=Y7 hlab;clear hr htot hlab
 go_enter Tryz.func24,Tryz.ntmps24
 go_wp2
 go_loopg [3,11] l.length (fun kx s3 s11 wr=>∃ (k:Nat) (v:Value) (rs:List Rec),s11 = .int .i64 k∧s3=v∧k≤l.length∧l.length-k≤kx∧oM (Lay wr w.heap.size v rs)∧oM (rs.map (·.x)=(sw (l.take k)).map Nz)∧oM (Below w.heap.size w wr))
 case atStart=>exact⟨0,_,[],rfl,rfl,bP _,by omega,⟨Lay.nil _ _⟩,⟨rfl⟩,⟨aU _ _⟩⟩
 case round=>
  obtain⟨k,v,rs,rfl,rfl,hk,hkx,HL,HM,HB⟩:=hrel
  by_cases hlt:k<l.length
  ·obtain⟨ad,A0,c0,A1,c1,rfl,x0,x1,l0,g0,l1,g1⟩:=wL HR.o (k:Int) (by omega) (by omega);rw[aG] at x0 x1;replace x0:=pW HB.o x0;replace x1:=pW HB.o x1;have hkz:(k:Int)<(l.length:Int):=by omega
   have HGT:=Y7 (FW l k hlt);have HSL:oM ((qc l (k:Int)).f0.length≤1000000∧tot (l.take k)+(qc l (k:Int)).f1.length≤1000000):=⟨by
    rw[rz hlt];refine⟨agF.o _ (dL hlt),?_⟩;have h1:=zy l (k+1);rw[bQ hlt,zV] at h1;exact bY h1 HT.o⟩
   have HGL:=Y7 (Aj l k hk);have G0:=Y7 g0;have G1:=Y7 g1;clear l0 g0 l1 g1;generalize hs:qc l (k:Int)=s at *;clear hs
   by_cases hz:s.f1.length=0
   ·have HZ:=Y7 hz;have hzb:((s.f1.length:Int)==0)=true:=by rw[hz];rfl
    have hzz:(s.f1.length:Int)=0:=by omega
    clear hz;have HL1:=Y7 (HL.o.below (oN (aU _ _) (.cells #[.slice A0 s.f0.length c0,.slice A1 s.f1.length c1] 51 (0,0))));have HB1:=Y7 (oN HB.o (.cells #[.slice A0 s.f0.length c0,.slice A1 s.f1.length c1] 51 (0,0)));generalize s.f0.length=L0 at x0 HL1 HB1;generalize s.f1.length=L1 at x1 HL1 HB1 hzb hzz;go_wp2
    go_roundg (l.length-(k+1))
    case measure=>omega
    case rel=>exact⟨k+1,_,rs,by go_num,rfl,by omega,ay _,HL1,⟨by rw[HM.o,HGT.o,stepG,au HZ.o]⟩,HB1⟩
   ·have HZ:=Y7 hz;have hzb:((s.f1.length:Int)==0)=false:=beq_eq_false_iff_ne.2 (by omega);have hzz:¬ (s.f1.length:Int)=0:=by omega
    clear hz;have HL1:=Y7 (HL.o.below (oN (aU _ _) (.cells #[.slice A0 s.f0.length c0,.slice A1 s.f1.length c1] 51 (0,0))));have HB1:=Y7 (oN HB.o (.cells #[.slice A0 s.f0.length c0,.slice A1 s.f1.length c1] 51 (0,0)));have HX1:=Y7 (qx wr (.cells #[.slice A0 s.f0.length c0,.slice A1 s.f1.length c1] 51 (0,0)));have HBX:=Y7 (show w.heap.size≤wr.heap.size from HB.o.size);generalize hL0:s.f0.length=L0 at x0 HL1 HB1 HX1 G0;generalize hL1:s.f1.length=L1 at x1 HL1 HB1 HX1 G1 hzb hzz;have HL0:=Y7 hL0;have agG:=Y7 hL1;clear hL0 hL1
    go_upto_region 6 with (fail)
    clear HL HB x0 x1;generalize wr.alloc (.cells #[.slice A0 L0 c0,.slice A1 L1 c1] 51 (0,0))=W1 at HL1 HB1 HX1 ⊢;generalize wr.heap.size=bx at *;obtain⟨Av,cv,rfl,hcv,hC⟩:=HL1.o.reads;have HPL:oM (∀ x∈rs.map (·.x),x.f0.length≤1000000):=⟨fun x hx=>by
     rw[HM.o] at hx;obtain⟨y,hy,rfl⟩:=List.mem_map.1 hx;obtain⟨q,hq,he⟩:=Dv _ y hy;show y.f0.length≤_;rw[he];exact agF.o q (bT hq)⟩
    have HRB:oM (rs.length≤100000):=⟨by have:=HGL.o.1;rw[← bN (f:=Nz),← HM.o,bN] at this;omega⟩;have HIL:oM (posB (rs.map (·.x)) s.f0≤rs.length):=⟨by have:=Cr (rs.map (·.x)) s.f0;rwa [bN] at this⟩;have HC:=Y7 hC;have HCV:=Y7 hcv;have HPN:oM ((rs.map (·.x)).length=rs.length):=⟨bN ..⟩;clear hC hcv;generalize hpp:rs.map (·.x)=PQ at HM HPL HIL HC HPN;have HPP:=Y7 hpp;clear hpp;generalize hi:posB PQ s.f0=i at HIL;have HI:=Y7 hi;clear hi
    go_upto_block 2 with (fail)
    go_cut [6] (fun v6 wx=>v6 = .int .i64 (i:Nat)∧oM (Below W1.heap.size W1 wx))
    case first=>
     go_wp2_with fail
     go_loopg [6] rs.length (fun kx s6 wr=>∃ (q:Nat),s6 = .int .i64 q∧q≤i∧rs.length-q≤kx∧oM (Below W1.heap.size W1 wr))
     case atStart=>exact⟨0,rfl,bP _,by omega,⟨aU _ _⟩⟩
     case round=>
      clear hkx;obtain⟨q,rfl,hq,hkx,HBQ⟩:=hrel;have hrb:=HRB.o;have hil:=HIL.o;rcases dN q rs.length with hql | hql
      ·obtain⟨ad,Aq,cq,_,_,rfl,q0,_,lq0,gq0,_,_⟩:=wL (Kd.o9 HC.o HBQ.o) (q:Int) (by omega) (by omega);rw[aG] at q0;have HQL:oM ((qc PQ (q:Int)).f0.length≤1000000):=⟨by
        rw[rz (by rw[HPN.o];exact hql)];exact HPL.o _ (dL _)⟩
       have HNX:=Y7 (fun h=>Rj (G:=PQ) (t:=s.f0) (q:=q) (by rw[HI.o];exact hq) (by rw[HPN.o];exact hql) h);have HST:=Y7 (fun h=>Rk (G:=PQ) (t:=s.f0) (q:=q) (by rw[HI.o];exact hq) h);rw[HI.o] at HNX HST;have GQ:=Y7 gq0;clear lq0 gq0;generalize (qc PQ (q:Int)).f0=t at q0 GQ HQL HNX HST;have C3:=Y7 (fun W (hb:Below wr.heap.size wr W)=>Uy.c Aq A0 cq c0 t.length L0 t s.f0 W rfl HL0.o (Kd.o9 GQ.o hb) (Kd.o9 G0.o (oP (oP HB1.o HBQ.o) hb)) HQL.o);have qA:=BW.cell q0;have sA:=BW.cell (oQ (o7 HX1.o HBQ.o) 0 |>.trans rfl);generalize cmpL t s.f0=z at C3 HNX HST;have gq:(q:Int)<(rs.length:Int):=by omega
       have g1:decide ((q:Int)<(rs.length:Int))=true:=aC gq;have gqn:decide (q<rs.length)=true:=aC hql
       by_cases hzc:z<0
       ·have g2:decide (z<0)=true:=aC hzc;have HQ1:=Y7 (HNX.o hzc);clear q0 HNX HST
        go_wp2_with fail
        refine qD (by kernel_rfl) (by kernel_rfl) ?_
        repeat (any_goals (first | go_big_quiet_step (first|(go_at_call 50;refine qU (C3.o _ (BW.hb _))))|quiet_step (first|(go_at_call 50;refine qU (C3.o _ (BW.hb _))))))
        all_goals (refine dU ?_;intro _ hw';obtain⟨⟨w2,hb⟩,hw''⟩:=hw';subst hw'';have HB2:=Y7 (oP HBQ.o hb);clear hb)
        go_wp2
        go_roundg (rs.length-(q+1))
        case measure=>omega
        case rel=>exact⟨q+1,by go_num,HQ1.o,ay _,HB2⟩
       ·have g2:decide (z<0)=false:=aD hzc;have HQ1:=Y7 (HST.o hzc);clear q0 HNX HST
        go_wp2_with fail
        refine qD (by kernel_rfl) (by kernel_rfl) ?_
        repeat (any_goals (first | go_big_quiet_step (first|(go_at_call 50;refine qU (C3.o _ (BW.hb _))))|quiet_step (first|(go_at_call 50;refine qU (C3.o _ (BW.hb _))))))
        all_goals (refine dU ?_;intro _ hw';obtain⟨⟨w2,hb⟩,hw''⟩:=hw';subst hw'';have HB2:=Y7 (oP HBQ.o hb);clear hb)
        go_wp2_with fail
        go_meet
        exact⟨by rw[← HQ1.o],HB2⟩
      ·have hqi:q=i:=by omega
       subst hqi;have gq:¬ (q:Int)<(rs.length:Int):=by omega
       have g1:decide ((q:Int)<(rs.length:Int))=false:=aD gq;have gn:¬ q<rs.length:=by omega
       have gqn:decide (q<rs.length)=false:=aD gn
       go_wp2_with fail
       go_quiet (fail)
       go_wp2_with fail
       go_meet
       exact⟨rfl,⟨oU HBQ.o _⟩⟩
    case rest=>
     obtain⟨rfl,HBQ⟩:=hcut
     go_upto_region 9 with (fail)
     go_cut [50] (fun v50 wx=>v50 = .bool (!zf PQ s.f0)∧oM (Below W1.heap.size W1 wx))
     case first=>
      have hil:=HIL.o;rcases dN i rs.length with hql | hql
      ·obtain⟨ad,Aq,cq,_,_,rfl,q0,_,lq0,gq0,_,_⟩:=wL (Kd.o9 HC.o HBQ.o) (i:Int) (by omega) (by omega);rw[aG] at q0;have HQL:oM ((qc PQ (i:Int)).f0.length≤1000000):=⟨by
        rw[rz (by rw[HPN.o];exact hql)];exact HPL.o _ (dL _)⟩
       have HHG:oM (zf PQ s.f0=decide (cmpL (qc PQ (i:Int)).f0 s.f0=0)):=⟨by
        unfold zf;rw[HI.o,HPN.o,aC hql,jc]⟩
       have GQ:=Y7 gq0;clear lq0 gq0;generalize (qc PQ (i:Int)).f0=t at q0 GQ HQL HHG;have C3:=Y7 (fun W (hb:Below wc.heap.size wc W)=>Uy.c Aq A0 cq c0 t.length L0 t s.f0 W rfl HL0.o (Kd.o9 GQ.o hb) (Kd.o9 G0.o (oP (oP HB1.o HBQ.o) hb)) HQL.o);have qA:=BW.cell q0;have sA:=BW.cell (oQ (o7 HX1.o HBQ.o) 0 |>.trans rfl);generalize cmpL t s.f0=z at C3 HHG;have gq:¬ (i:Int)=(rs.length:Int):=by omega
       have g1:((i:Int)==(rs.length:Int))=false:=beq_eq_false_iff_ne.2 gq;have gn:¬ i=rs.length:=by omega
       have g3:(i==rs.length)=false:=beq_eq_false_iff_ne.2 gn
       by_cases hzc:z=0
       ·have HV:oM (zf PQ s.f0=true):=⟨by rw[HHG.o,aC hzc]⟩;subst hzc;clear q0 HHG
        go_wp2_with fail
        refine qD (by kernel_rfl) (by kernel_rfl) ?_
        repeat (any_goals (first | go_big_quiet_step (first|(go_at_call 50;refine qU (C3.o _ (BW.hb _))))|quiet_step (first|(go_at_call 50;refine qU (C3.o _ (BW.hb _))))))
        all_goals (refine dU ?_;intro _ hw';obtain⟨⟨w2,hb⟩,hw''⟩:=hw';subst hw'';have HB2:=Y7 (oP HBQ.o hb);clear hb)
        go_wp2_with fail
        go_meet
        exact⟨by rw[HV.o];rfl,HB2⟩
       ·have HV:oM (zf PQ s.f0=false):=⟨by rw[HHG.o,aD hzc]⟩;have g2:decide (z=0)=false:=aD hzc;have g4:(z==0)=false:=beq_eq_false_iff_ne.2 hzc;have g5:(z != 0)=true:=bne_iff_ne.2 hzc;clear q0 HHG
        go_wp2_with fail
        refine qD (by kernel_rfl) (by kernel_rfl) ?_
        repeat (any_goals (first | go_big_quiet_step (first|(go_at_call 50;refine qU (C3.o _ (BW.hb _))))|quiet_step (first|(go_at_call 50;refine qU (C3.o _ (BW.hb _))))))
        all_goals (refine dU ?_;intro _ hw';obtain⟨⟨w2,hb⟩,hw''⟩:=hw';subst hw'';have HB2:=Y7 (oP HBQ.o hb);clear hb)
        go_wp2_with fail
        go_meet
        exact⟨by rw[HV.o];rfl,HB2⟩
      ·have hqi:i=rs.length:=by omega
       have HV:oM (zf PQ s.f0=false):=⟨by
        unfold zf;rw[HI.o,HPN.o,aD (by omega),kE]⟩
       have gq:(i:Int)=(rs.length:Int):=by omega
       have g1:((i:Int)==(rs.length:Int))=true:=beq_iff_eq.2 gq;have g3:(i==rs.length)=true:=beq_iff_eq.2 hqi
       go_wp2_with fail
       go_quiet (fail)
       go_wp2_with fail
       go_meet
       exact⟨by rw[HV.o];rfl,⟨oU HBQ.o _⟩⟩
     case rest=>
      clear HBQ;obtain⟨rfl,ahz⟩:=hcut;have HL2:=Y7 (HL1.o.below ahz.o);have HX2:=Y7 (o7 HX1.o ahz.o);have HBQ:=Y7 (oP HB1.o ahz.o);clear HL1 HX1 HB1 ahz;have y0:=oQ HX2.o 0;have y1:=oQ HX2.o 1
      go_upto_if 50 with (fail)
      go_cut [3] (fun v3 wx=>∃ rs3:List Rec,oM (Lay wx w.heap.size v3 rs3)∧oM (rs3.map (·.x)=wO PQ s.f0)∧oM (Below w.heap.size w wx)∧oM (wx.heap[bx]? = some (.cells #[.slice A0 L0 c0,.slice A1 L1 c1] 51 (0,0))))
      case first=>
       generalize hfb:zf PQ s.f0=fb;have agH:=Y7 hfb;clear hfb;cases fb with
       | true=>
         go_wp2_with fail
         go_meet
         exact⟨rs,HL2,⟨by rw[wO,au agH.o];exact HPP.o⟩,HBQ,HX2⟩
       | false=>
         have hil:=HIL.o;have hcv:=HCV.o;have aoY:(i:Int)≤(cv:Int):=by omega
         have akh:(i:Int)≤(rs.length:Int):=by omega
         have ahA:=(Kd.pE (HL2.o.below (q9 (aU _ _))).1).2.2;rw[bN] at ahA;have HTK:oM (∀ W,Below wc.drew.heap.size wc.drew W→(Kd.raw 2).C W Av i ((rs.map wM).take i)):=⟨fun W hb=>by
          have:=Kd.wZ (m:=i) (by rw[bN];exact Kd.o9 ahA hb) (by rw[bN];exact hil);rwa [aW,bN,dJ hil] at this⟩
         have HDR:oM (∀ W,Below wc.drew.heap.size wc.drew W→(Kd.raw 2).C W (if cv=i then Av else Av.map (·.add (i*2))) (rs.length-i) ((rs.map wM).drop i)):=⟨fun W hb=>by
          have:=Kd.Bf (m:=i) (by rw[bN];exact Kd.o9 ahA hb) (by rw[bN];exact hil) (by rw[bN];exact hcv);rwa [aX,bN] at this⟩
         clear ahA;rw[Bool.not_false]
         go_upto_region 10 with (fail)
         refine DR (n:=16) (ds:=[7,9,10,14]) (S:=fun w'=>w'.cell? ⟨bx,0,none⟩=some (.slice A0 L0 c0)) #[false,false,false,false,false,false,false,false,false,false,false,false,false,false,false,false] mixed rfl rfl y0 (fun hS=>?_);refine rC (i:=1) (N:=some 52) (v:=?_) (a':=?_) #[false,true,false,false,false,false,false,false,false,false,false,false,false,false,false,false] rfl rfl (by kernel_rfl) (fun _ _ _ h=>h) (Or.inl ⟨by rfl,?_⟩) ?_ ?_
         rotate_left
         ·intro w';go_simp
          try (with_reducible rfl)
         rotate_left
         ·simp only[Act.put,ah,ak,aj];rfl
         refine rC (i:=2) (N:=some 53) (v:=?_) (a':=?_) #[false,true,true,false,false,false,false,false,false,false,false,false,false,false,false,false] rfl rfl (by kernel_rfl) (fun _ _ _ h=>h) (Or.inl ⟨by rfl,?_⟩) ?_ ?_
         rotate_left
         ·intro w';go_simp
          try (with_reducible rfl)
         rotate_left
         ·simp only[Act.put,ah,ak,aj];rfl
         refine rC (i:=3) (N:=some 54) (v:=?_) (a':=?_) #[false,true,true,true,false,false,false,false,false,false,false,false,false,false,false,false] rfl rfl (by kernel_rfl) (fun _ _ _ h=>h) (Or.inl ⟨by rfl,?_⟩) ?_ ?_
         rotate_left
         ·intro w';go_simp
          try (with_reducible rfl)
         rotate_left
         ·simp only[Act.put,ah,ak,aj];rfl
         refine rC (i:=5) (N:=some 56) (v:=?_) (a':=?_) #[false,true,true,true,false,true,false,false,false,false,false,false,false,false,false,false] rfl rfl (by kernel_rfl) (fun _ _ _ h=>h) (Or.inl ⟨by rfl,?_⟩) ?_ ?_
         rotate_left
         ·intro w';go_simp
          try (with_reducible rfl)
         rotate_left
         ·simp only[Act.put,ah,ak,aj];rfl
         refine rC (i:=11) (N:=some 62) (v:=?_) (a':=?_) #[false,true,true,true,false,true,false,false,false,false,false,true,false,false,false,false] rfl rfl (by kernel_rfl) (fun _ _ _ h=>h) (Or.inl ⟨by rfl,?_⟩) ?_ ?_
         rotate_left
         ·intro w';go_simp
          try (with_reducible rfl)
         rotate_left
         ·simp only[Act.put,ah,ak,aj];rfl
         refine rC (i:=12) (N:=some 63) (v:=?_) (a':=?_) #[false,true,true,true,false,true,false,false,false,false,false,true,true,false,false,false] rfl rfl (by kernel_rfl) (fun _ _ _ h=>h) (Or.inl ⟨by rfl,?_⟩) ?_ ?_
         rotate_left
         ·intro w';go_simp
          try (with_reducible rfl)
         rotate_left
         ·simp only[Act.put,ah,ak,aj];rfl
         refine rC (i:=13) (N:=some 64) (v:=?_) (a':=?_) #[false,true,true,true,false,true,false,false,false,false,false,true,true,true,false,false] rfl rfl (by kernel_rfl) (fun _ _ _ h=>h) (Or.inl ⟨by rfl,?_⟩) ?_ ?_
         rotate_left
         ·intro w';go_simp
          try (with_reducible rfl)
         rotate_left
         ·simp only[Act.put,ah,ak,aj];rfl
         refine EI (i:=6) (N:=some 57) (v:=?_) (a':=?_) #[false,true,true,true,false,true,true,false,false,false,false,true,true,true,false,false] rfl rfl (by kernel_rfl) (fun _ _ _ h=>h) (Or.inl ⟨by rfl,?_⟩) hS ?_ ?_
         rotate_left
         ·rintro w' hc1;go_simp
          try (with_reducible rfl)
         rotate_left
         ·simp only[Act.put,ah,ak,aj];rfl
         have aiY:=Y7 (HL2.o.below (q9 (aU _ _)));have ahB:oM (wc.drew.heap[bx]? = some (.cells #[.slice A0 L0 c0,.slice A1 L1 c1] 51 (0,0))):=HX2;have agO:=Y7 (oV HBQ.o);clear HL2 HX2 HBQ y0 y1 hS;generalize wc.drew=w4 at aiY ahB agO HTK HDR ⊢;have ank:=Y7 aiY.o.1;have aoZ:=Y7 (Kd.pE ank.o).2.2;refine zG (i:=0) (N:=some 51) #[true,true,true,true,false,true,true,false,false,false,false,true,true,true,false,false] rfl rfl (by kernel_rfl) (by decide) (fun K hK=>?_);refine wF (v:=?_) (w1:=?_) (by rfl) rfl ?_ ?_
         rotate_left;rotate_left
         ·go_simp
          refine⟨?_,?_⟩<;>rfl
         have hE:=Y7 (wu (Kd.raw 2) 51 w4.heap.size w4 (fun _=>True) (ay _) bE);have HB5:=Y7 (oN (aU w4.heap.size w4) (.cells #[] 51 (0,0)));refine hK.o _ _ (oQ (o7 ahB.o HB5.o) 0) (fun hS9=>?_);clear hK hS9;clear K;refine tu (a':=?_) ?_ ?_
         rotate_left
         ·show Act.put _ (some 51) _=_;simp only[Act.put,ah,ak,aj];rfl
         refine zG (i:=4) (N:=some 55) #[true,true,true,true,true,true,true,false,false,false,false,true,true,true,false,false] rfl rfl (by kernel_rfl) (by decide) (fun K hK=>?_);refine Kd.qI (Kd.raw 2) (w0:=w4) w4.heap.size (by rfl) (.tmp 51) (.tmp 54) 22 51 (.agg #[.slice none 0 0,.slice none 0 0]) 48 rfl Tryz.underlying22 Bz rfl (by decide) (by omega) _ [] ((rs.map wM).take i) Av i cv (fun _=>True) (fun _=>False) rfl rfl hE.o (HTK.o _ HB5.o) (fun x cs hx=>hx) (fun _ hk=>hk.elim) (fun _ _=>bE) HB5.o ?hb ?hl ?_
         case hb=>exact HB5.o.size
         case hl=>(have:=HRB.o;have:=HIL.o;simp;omega)
         intro v5 w5 hR5 hB5 hg5 anl;rw[cB] at hR5;have HR5:=Y7 hR5;have HB6:=Y7 hB5;clear hR5 hB5 hg5 anl;refine hK.o _ _ (oQ (o7 ahB.o HB6.o) 0) (fun hS9=>?_);clear hK hS9;clear K;refine tu (a':=?_) ?_ ?_
         rotate_left
         ·show Act.put _ (some 55) _=_;simp only[Act.put,ah,ak,aj];rfl
         refine F4 (i:=7) (N:=some 58) #[true,true,true,true,true,true,true,true,false,false,false,true,true,true,false,false] rfl rfl (by kernel_rfl) (by decide) (fun K hK=>?_);refine TB Tryz.func51 (by kernel_rfl) rfl #[.slice A0 L0 c0] (by rfl) rfl rfl (by rw[bR];rfl) ?_;refine (X5.c A0 c0 s.f0 L0 _ HL0.o (by rw[HL0.o];exact Kd.o9 G0.o (oP agO.o HB6.o)) HSL.o.1).mono ?_;rintro e w6 ⟨lv,rfl,hRL,hb⟩;obtain⟨Al,cl,rfl⟩:=Kd.pO hRL;have anm:=Y7 hRL;have HR6:=Y7 (Kd.qo HR5.o hb);have HB7:=Y7 (oP HB6.o hb);clear hRL;refine⟨_,rfl,hK.o _ _ ?_⟩;clear hK K;refine tu (a':=?_) ?_ ?_
         rotate_left
         ·show Act.put _ (some 58) _=_;simp only[Act.put,ah,ak,aj];rfl
         refine rC (i:=8) (N:=some 59) (v:=?_) (a':=?_) #[true,true,true,true,true,true,true,true,true,false,false,true,true,true,false,false] rfl rfl (by kernel_rfl) (fun _ _ _ h=>h) (Or.inl ⟨by rfl,?_⟩) ?_ ?_
         rotate_left
         ·intro w';go_simp
          try (with_reducible rfl)
         rotate_left
         ·simp only[Act.put,ah,ak,aj];rfl
         refine F4 (i:=9) (N:=some 60) #[true,true,true,true,true,true,true,true,true,true,false,true,true,true,false,false] rfl rfl (by kernel_rfl) (by decide) (fun K hK=>?_);refine wF (v:=?_) (w1:=?_) (by rfl) rfl ?_ ?_
         rotate_left;rotate_left
         ·go_simp
          refine⟨?_,?_⟩<;>rfl
         have akt:=Y7 (Kd.sJ anm.o (.cells #[.slice Al s.f0.length cl,.slice none 0 0] 51 (0,0)));have HR7:=Y7 (Kd.sJ HR6.o (.cells #[.slice Al s.f0.length cl,.slice none 0 0] 51 (0,0)));have HB8:=Y7 (oN HB7.o (.cells #[.slice Al s.f0.length cl,.slice none 0 0] 51 (0,0)));have ano:=Y7 (XL (qx w6 (.cells #[.slice Al s.f0.length cl,.slice none 0 0] 51 (0,0))) rfl rfl);refine hK.o _ _ ?_;clear hK K;refine tu (a':=?_) ?_ ?_
         rotate_left
         ·show Act.put _ (some 60) _=_;simp only[Act.put,ah,ak,aj];rfl
         refine F4 (i:=10) (N:=some 61) #[true,true,true,true,true,true,true,true,true,true,true,true,true,true,false,false] rfl rfl (by kernel_rfl) (by decide) (fun K hK=>?_);refine Kd.qI (Kd.raw 2) (w0:=w4) w4.heap.size (by rfl) (.tmp 55) (.tmp 60) 22 51 (.agg #[.slice none 0 0,.slice none 0 0]) 48 rfl Tryz.underlying22 Bz rfl (by decide) (by omega) v5 ((rs.map wM).take i) [[.slice Al s.f0.length cl,.slice none 0 0]] (some ⟨w6.heap.size,0,none⟩) 1 1 (fun _=>True) (fun _=>False) rfl rfl HR7.o ano.o (fun x cs hx=>hx) (fun _ hk=>hk.elim) (fun _ _=>bE) HB8.o ?hb ?hl ?_
         case hb=>exact HB8.o.size
         case hl=>(have:=HRB.o;have:=HIL.o;simp;omega)
         intro v8 w8 hR8 hB8 hg8 anp;have HR8:=Y7 hR8;have HB9:=Y7 hB8;have aku:=Y7 (xO rfl akt.o hg8 (xP (by decide) akt.o HR7.o));clear hR8 hB8 hg8 anp;refine hK.o _ _ ?_;clear hK K;refine tu (a':=?_) ?_ ?_
         rotate_left
         ·show Act.put _ (some 61) _=_;simp only[Act.put,ah,ak,aj];rfl
         refine F4 (i:=14) (N:=some 65) #[true,true,true,true,true,true,true,true,true,true,true,true,true,true,true,false] rfl rfl (by kernel_rfl) (by decide) (fun K hK=>?_);refine Kd.qI (Kd.raw 2) (w0:=w4) w4.heap.size (by rfl) (.tmp 61) (.tmp 64) 22 51 (.agg #[.slice none 0 0,.slice none 0 0]) 48 rfl Tryz.underlying22 Bz rfl (by decide) (by omega) v8 _ ((rs.map wM).drop i) _ _ _ (fun _=>True) (fun _=>False) rfl rfl HR8.o (HDR.o _ HB9.o) (fun x cs hx=>hx) (fun _ hk=>hk.elim) (fun _ _=>bE) HB9.o ?hb ?hl ?_
         case hb=>exact HB9.o.size
         case hl=>(have:=HRB.o;have:=HIL.o;simp;omega)
         intro v9 w9 hR9 hB9 hg9 ao0;have anq:=Y7 (xO rfl aku.o hg9 (xP (by decide) aku.o HR8.o));refine hK.o _ _ ?_;clear hK K;refine tu (a':=?_) ?_ ?_
         rotate_left
         ·show Act.put _ (some 65) _=_;simp only[Act.put,ah,ak,aj];rfl
         refine rC (i:=15) (N:=some 3) (v:=?_) (a':=?_) #[true,true,true,true,true,true,true,true,true,true,true,true,true,true,true,true] rfl rfl (by kernel_rfl) (fun _ _ _ h=>h) (Or.inl ⟨by rfl,?_⟩) ?_ ?_
         rotate_left
         ·intro w';go_simp
          try (with_reducible rfl)
         rotate_left
         ·simp only[Act.put,ah,ak,aj];rfl
         refine Hr (by kernel_rfl) ?_
         try go_wp2
         all_goals
          go_meet
          refine⟨rs.take i++[⟨⟨s.f0,[]⟩,.slice Al s.f0.length cl,.slice none 0 0⟩]++rs.drop i,⟨Lay.insert aiY.o (⟨hB9.os,hB9.tape,hB9.output,hB9.size,fun k hk _=>hB9.block k hk⟩) i ⟨⟨s.f0,[]⟩,.slice Al s.f0.length cl,.slice none 0 0⟩ (Kd.qW hR9 agO.o.size) (Kd.qW anq.o (bY agO.o.size HB6.o.size)) (Kd.tJ _ _ _ _ _) rfl⟩,⟨?_⟩,⟨oP agO.o hB9⟩,⟨o7 ahB.o hB9⟩⟩;rw[wO,av (by rw[agH.o];simp),HI.o,Gh,fJ,fJ,ng,ni,HPP.o];rfl
      case rest=>
       obtain⟨rs3,HL3,HM3,HB3,HX3⟩:=hcut;clear HL2 HX2 HBQ y0 y1;have hil:i<rs3.length:=by
        have:=(GD PQ s.f0).1;rw[HI.o,← HM3.o,bN] at this;exact this
       obtain⟨gv,aeT,hv3,hgv⟩:=Ih HL3.o (by omega);subst hv3;have HGV:=Y7 hgv;have ao1:=Y7 hil;have y1:=oQ HX3.o 1;have agP:oM (i<(wO PQ s.f0).length):=⟨by rw[← HM3.o,bN];exact hil⟩;have HLT:oM ((qc (wO PQ s.f0) (i:Int)).f1.length+L1≤1000000):=⟨by
        have h0:∀ x∈wO PQ s.f0,x.f1.length+L1≤1000000:=fun x h1=>by
         have h2:=HSL.o.2;rw[agG.o] at h2;rcases Ir h1 with h1 | h1
         ·rw[HM.o] at h1;obtain⟨y,hy,he⟩:=List.mem_map.1 h1;have h3:=HGL.o.2 _ hy;have h4:=Iz y.f1;rw[← he];show (vV y.f1).length+L1≤_;omega
         ·rw[h1];show (0:Nat)+L1≤_;omega
        refine h0 _ ?_;rw[rz agP.o];exact dL _⟩
       have HST:oM ((sw (l.take (k+1))).map Nz=EA (wO PQ s.f0) i s.f1):=⟨by
        rw[HGT.o,RH _ _ HZ.o,← HM.o,HI.o]⟩
       generalize hn3:rs3.length=n at HL3;have HN3:=Y7 hn3;have hiz:(i:Int)<(n:Int):=by omega
       have hnz:n≤aeT:=by
        have:=Kd.pE HL3.o.1;obtain⟨_,_,h,_,h2,_⟩:=HL3.o.reads;simp only[j5] at h;omega
       have hL1:L1≤1000000:=by have:=HLT.o;omega
       clear hgv hn3 hil;generalize hPP:wO PQ s.f0=PP at HM3 agP HLT HST;clear hPP;go_wp2
       go_loopg [69] L1 (fun kx s69 wr=>∃ (j:Nat) (rs4:List Rec),s69 = .int .i64 j∧j≤L1∧L1-j≤kx∧oM (Lay wr w.heap.size (.slice (some ⟨gv,0,none⟩) n aeT) rs4)∧oM (rs4.map (·.x)=EA PP i (s.f1.take j))∧oM (Below w.heap.size w wr))
       case atStart=>exact⟨0,rs3,rfl,bP _,by omega,HL3,⟨by rw[HM3.o,kD,UQ agP.o]⟩,HB3⟩
       case round=>
        clear y1;obtain⟨j,rs4,rfl,hj,ao2,aiZ,HM4,ahC⟩:=hrel;clear HL3 HM3 HB3 HX3
        by_cases hjl:j<L1
        ·obtain⟨ad,rfl,p0,p1⟩:=tY (Kd.o9 G1.o ahC.o) (j:Int) (by omega) (by omega);rw[aG] at p0 p1;have hjz:(j:Int)<(L1:Int):=by omega
         have HTJ:oM (s.f1.take j++[pI s.f1 (j:Int)]=s.f1.take (j+1)):=⟨by
          have hjs:j<s.f1.length:=by rw[agG.o];exact hjl
          have:pI s.f1 (j:Int)=s.f1[j]:=by simp[pI,aV,aR hjs]
          rw[bQ hjs,this]⟩
         generalize pI s.f1 (j:Int)=p at p0 p1 HTJ;have agQ:=Y7 (aiZ.o.below (oN (aU _ _) (.cells #[.int .i64 p.f0,.int .u64 p.f1] 70 (0,0))));have agR:=Y7 (oN ahC.o (.cells #[.int .i64 p.f0,.int .u64 p.f1] 70 (0,0)));have HXB:=Y7 (qx wr (.cells #[.int .i64 p.f0,.int .u64 p.f1] 70 (0,0)))
         go_upto_region 14 with (fail)
         clear aiZ ahC p0 p1;generalize wr.alloc (.cells #[.int .i64 p.f0,.int .u64 p.f1] 70 (0,0))=W4 at agQ agR HXB ⊢;generalize wr.heap.size=bs at HXB ⊢;have HL4:=Y7 (agQ.o.below (q9 (aU _ _)));have HBD:=Y7 (oV agR.o);have hrl:i<rs4.length:=by
          have h1:=UO PP i (s.f1.take j);rw[← HM4.o,bN] at h1;have:=agP.o;omega
         obtain⟨r,hri⟩:∃ r,rs4[i]? = some r:=⟨_,aR hrl⟩;have HRI:=Y7 hri;have HRX:oM (r.x=⟨(qc PP (i:Int)).f0,vO (qc PP (i:Int)).f1 (s.f1.take j)⟩):=⟨by
          have h1:=V6 agP.o (s.f1.take j);rw[← HM4.o,fK,hri] at h1
          simpa using h1⟩
         obtain⟨As,cs,hsv,hcs,hCs⟩:=Kd.zX (HL4.o.2.1 r (dI hri)).2;obtain⟨_,x2,_,_⟩:=Ig HL4.o i r hri;rw[hsv] at x2;have HNL:oM (r.x.f1.length≤1000000):=⟨by
          rw[HRX.o];have h1:=DN (s.f1.take j) (qc PP (i:Int)).f1;rw[aW] at h1;have:=HLT.o;show (vO _ _).length≤_;omega⟩
         have b0:=oQ (o7 HXB.o (q9 (aU _ _))) 0;have b1:=oQ (o7 HXB.o (q9 (aU _ _))) 1;generalize hns:r.x.f1.length=ns at x2 hcs hCs HNL;have HNS:=Y7 hns;have HNC:=Y7 hcs;have HCS:=Y7 hCs;clear hri hsv hcs hCs hns hrl agQ agR HXB;replace b0:W4.drew.cell? ⟨bs,0,none⟩=some (.int .i64 p.f0):=b0;replace b1:W4.drew.cell? ⟨bs,1,none⟩=some (.int .u64 p.f1):=b1;refine DR (n:=12) (ds:=[8,11]) (S:=fun w'=>w'.cell? ⟨gv,i*2+1,none⟩=some (.slice As ns cs)∧w'.cell? ⟨bs,0,none⟩=some (.int .i64 p.f0)∧w'.cell? ⟨bs,1,none⟩=some (.int .u64 p.f1)) #[false,false,false,false,false,false,false,false,false,false,false,false] mixed rfl rfl ⟨x2,b0,b1⟩ (fun hS=>?_);refine rC (i:=0) (N:=some 73) (v:=?_) (a':=?_) #[true,false,false,false,false,false,false,false,false,false,false,false] rfl rfl (by kernel_rfl) (fun _ _ _ h=>h) (Or.inl ⟨by rfl,?_⟩) ?_ ?_
         rotate_left
         ·intro w';go_simp
          try (with_reducible rfl)
         rotate_left
         ·simp only[Act.put,ah,ak,aj];rfl
         refine rC (i:=1) (N:=some 74) (v:=?_) (a':=?_) #[true,true,false,false,false,false,false,false,false,false,false,false] rfl rfl (by kernel_rfl) (fun _ _ _ h=>h) (Or.inl ⟨by rfl,?_⟩) ?_ ?_
         rotate_left
         ·intro w';go_simp
          try (with_reducible rfl)
         rotate_left
         ·simp only[Act.put,ah,ak,aj];rfl
         refine rC (i:=2) (N:=some 75) (v:=?_) (a':=?_) #[true,true,true,false,false,false,false,false,false,false,false,false] rfl rfl (by kernel_rfl) (fun _ _ _ h=>h) (Or.inl ⟨by rfl,?_⟩) ?_ ?_
         rotate_left
         ·intro w';go_simp
          try (with_reducible rfl)
         rotate_left
         ·simp only[Act.put,ah,ak,aj];rfl
         refine rC (i:=3) (N:=some 76) (v:=?_) (a':=?_) #[true,true,true,true,false,false,false,false,false,false,false,false] rfl rfl (by kernel_rfl) (fun _ _ _ h=>h) (Or.inl ⟨by rfl,?_⟩) ?_ ?_
         rotate_left
         ·intro w';go_simp
          try (with_reducible rfl)
         rotate_left
         ·simp only[Act.put,ah,ak,aj];rfl
         refine rC (i:=4) (N:=some 77) (v:=?_) (a':=?_) #[true,true,true,true,true,false,false,false,false,false,false,false] rfl rfl (by kernel_rfl) (fun _ _ _ h=>h) (Or.inl ⟨by rfl,?_⟩) ?_ ?_
         rotate_left
         ·intro w';go_simp
          try (with_reducible rfl)
         rotate_left
         ·simp only[Act.put,ah,ak,aj];rfl
         refine rC (i:=5) (N:=some 78) (v:=?_) (a':=?_) #[true,true,true,true,true,true,false,false,false,false,false,false] rfl rfl (by kernel_rfl) (fun _ _ _ h=>h) (Or.inl ⟨by rfl,?_⟩) ?_ ?_
         rotate_left
         ·intro w';go_simp
          try (with_reducible rfl)
         rotate_left
         ·simp only[Act.put,ah,ak,aj];rfl
         refine EI (i:=6) (N:=some 79) (v:=?_) (a':=?_) #[true,true,true,true,true,true,true,false,false,false,false,false] rfl rfl (by kernel_rfl) (fun _ _ _ h=>h) (Or.inl ⟨by rfl,?_⟩) hS ?_ ?_
         rotate_left
         ·rintro w' ⟨hc1,hc2,hc3⟩;go_simp
          try (with_reducible rfl)
         rotate_left
         ·simp only[Act.put,ah,ak,aj];rfl
         refine EI (i:=7) (N:=some 80) (v:=?_) (a':=?_) #[true,true,true,true,true,true,true,true,false,false,false,false] rfl rfl (by kernel_rfl) (fun _ _ _ h=>h) (Or.inl ⟨by rfl,?_⟩) hS ?_ ?_
         rotate_left
         ·rintro w' ⟨hc1,hc2,hc3⟩;go_simp
          try (with_reducible rfl)
         rotate_left
         ·simp only[Act.put,ah,ak,aj];rfl
         generalize W4.drew=wd at *;refine F4 (i:=8) (N:=some 81) #[true,true,true,true,true,true,true,true,true,false,false,false] rfl rfl (by kernel_rfl) (by decide) (fun K hK=>?_);refine TB Tryz.func52 (by kernel_rfl) rfl #[.slice As ns cs,.agg #[.int .i64 p.f0,.int .u64 p.f1]] (by rfl) rfl rfl (by rw[bR];rfl) ?_;refine (YQ.c As cs ns r.x.f1 p _ HNS.o HCS.o HNC.o HNL.o).mono ?_;rintro e w1 ⟨v1,rfl,hR1,hB1⟩;have HG1:oM (wd.grownBy w1 r.sv.ownBlock):=⟨⟨hB1.os,hB1.tape,hB1.output,hB1.size,fun k hk _=>hB1.block k hk⟩⟩;have HAT:oM (v1.ownBlock=r.sv.ownBlock∨∃ b,v1.ownBlock=some b∧wd.heap.size≤b):=⟨by
          obtain⟨g,cap,hv,hbg,_⟩:=Kd.EO hR1 (ND r.x.f1 p).1;exact .inr ⟨g,by rw[hv];rfl,hbg⟩⟩
         have HR1:=Y7 (Kd.qW hR1 HBD.o.size);have HB4:=Y7 (oP HBD.o hB1);clear hR1 hB1;obtain⟨A9,c9,hv9⟩:=Kd.pO HR1.o;generalize (yF r.x.f1 p).length=n9 at hv9;subst hv9;refine⟨_,rfl,hK.o _ _ ?_⟩;clear hK K;refine tu (a':=?_) ?_ ?_
         rotate_left
         ·show Act.put _ (some 81) _=_;simp only[Act.put,ah,ak,aj];rfl
         have HRR:oM (RR w1 w.heap.size (.slice (some ⟨gv,0,none⟩) n aeT) (rs4.map wM)):=⟨xO rfl HL4.o.1 HG1.o (xP (by decide) HL4.o.1 (HL4.o.2.1 r (dI HRI.o)).2)⟩;obtain⟨_,z1,_,z3⟩:=GH HRR.o i r.lv r.sv (by rw[fK,HRI.o];rfl);have HL5:=Y7 (Lay.samples HL4.o i r HRI.o HG1.o HR1.o HAT.o);have HB5:=Y7 (pF (j:=i*2+1) (v := .slice A9 n9 c9) HB4.o HGV.o);refine rC (i:=9) (N:=some 82) (v:=?_) (a':=?_) #[true,true,true,true,true,true,true,true,true,true,false,false] rfl rfl (by kernel_rfl) (fun _ _ _ h=>h) (Or.inl ⟨by rfl,?_⟩) ?_ ?_
         rotate_left
         ·intro w';go_simp
          try (with_reducible rfl)
         rotate_left
         ·simp only[Act.put,ah,ak,aj];rfl
         refine rC (i:=10) (N:=some 83) (v:=?_) (a':=?_) #[true,true,true,true,true,true,true,true,true,true,true,false] rfl rfl (by kernel_rfl) (fun _ _ _ h=>h) (Or.inl ⟨by rfl,?_⟩) ?_ ?_
         rotate_left
         ·intro w';go_simp
          try (with_reducible rfl)
         rotate_left
         ·simp only[Act.put,ah,ak,aj];rfl
         refine F4 (i:=11) (N:=none) #[true,true,true,true,true,true,true,true,true,true,true,true] rfl rfl (by kernel_rfl) (by decide) (fun K hK=>?_);refine WI (w1:=?_) (by rfl) rfl ?_ ?_
         rotate_left
         ·go_simp
          rfl
         refine hK.o _ _ ?_;clear hK K;refine Hr (by kernel_rfl) ?_
         try go_wp2
         go_roundg (L1-(j+1))
         case measure=>omega
         case rel=>exact⟨j+1,_,by first | rfl | go_num,by omega,ay _,HL5,⟨by
          rw[ko,HM4.o];show (EA PP i (s.f1.take j)).set i ⟨r.x.f0,yF r.x.f1 p⟩=_;rw[HRX.o,Rx,HTJ.o]⟩,HB5⟩
        ·obtain rfl:j=L1:=by omega
         have hjz:¬ (j:Int)<(j:Int):=by omega
         have anr:oM (rs4.map (·.x)=(sw (l.take (k+1))).map Nz):=⟨by rw[HM4.o,HST.o,← agG.o,dz]⟩;go_wp2
         go_roundg (l.length-(k+1))
         case measure=>omega
         case rel=>exact⟨k+1,_,rs4,by go_num,rfl,by omega,ay _,aiZ,anr,ahC⟩
  ·obtain rfl:k=l.length:=by omega
   have hkz:¬ (l.length:Int)<(l.length:Int):=by omega
   rw[dz] at HM;obtain⟨A2,c2,hu,hc2,hC⟩:=HL.o.reads;have adI:(joinL l).length=rs.length:=by
    have h:=eU List.length HM.o;rw[bN] at h;exact h.symm
   have HJ:oM (rs.map (·.x)=joinL l):=⟨HM.o⟩;rw[HJ.o] at hC;subst hu;have HCC:=Y7 hC;have HC2:=Y7 hc2;have HLEN:=Y7 adI;clear hC hc2 adI;go_wp2;go_ret;refine⟨A2,c2,by rw[HLEN.o];rfl,by rw[HLEN.o];exact HC2.o,by rw[HLEN.o];exact HCC.o,HB.o⟩
end Go.Proofs.Y.PA

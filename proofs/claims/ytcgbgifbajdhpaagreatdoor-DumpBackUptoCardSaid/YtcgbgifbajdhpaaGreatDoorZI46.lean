/- Of the law rZIQDumpBack. -/
import Derived.Test.YtcgbgifbajdhpaaGreatDoorZI38
set_option linter.unusedVariables false
set_option linter.unusedSimpArgs false
set_option maxHeartbeats 16000000
set_option maxRecDepth 1000000
namespace Go
abbrev fE:=@Go.wpQuiet_nil
end Go
namespace Go.Proofs.Y.PA
open Go.RowKit Go.Proofs.Y.G Go.Proofs.YW.o7 Go.Proofs.YW.pJ Go.Proofs.YW.pO
theorem Xb {w:World}{vb:Nat}{c0 c1:Value}(hv:w.heap[vb]? = some (.cells #[c0,c1] 51 (0,0)))(h0:c0.oneCell'=true)(h1:c1.oneCell'=true):(Kd.raw 2).C w (some ⟨vb,0,none⟩) 1 [[c0,c1]]:=
 ⟨rfl,by omega,fun _=>⟨⟨vb,0,none⟩,rfl,fun j p hj=>by
  rcases j with _ | j
  ·simp at hj;subst hj;refine⟨[c0,c1],rfl,⟨rfl,rfl,fun u hu=>by simp at hu;rcases hu with rfl | rfl<;>assumption⟩,fun i u hi=>?_⟩;rw[kQ,pq hv,dX,iF,dX]
   simpa using hi
  ·simp at hj⟩⟩
theorem XQ.c (A:Option Addr)(c n:Nat)(l:List qJ)(w:World)(hn:l.length=n)(hr:Kd.C yD w A n l)(hlen:n≤100000)(htot:tot l≤1000000)(hlab:∀ x∈l,x.f0.length≤1000000) :
 Calls Tryz.prog 24 #[.slice A n c] w fun e w'=>∃ (A':Option Addr) (c':Nat),e = .returned (.slice A' (joinL l).length c')∧(joinL l).length≤c'∧Kd.C yD w' A' (joinL l).length (joinL l)∧Below w.heap.size w w':=by
 subst hn;have mixed:Tryz.prog.follows .mixedOrders=true:=by kernel_rfl
 have HR:=Yu hr;have HT:=Yu htot;have aeN:=Yu hlab;clear hr htot hlab
 go_enter Tryz.func24,Tryz.ntmps24
 go_wp2
 go_loopg [3,11] l.length (fun kx s3 s11 wr=>∃ (k:Nat) (v:Value) (rs:List Rec),s11 = .int .i64 k∧s3=v∧k≤l.length∧l.length-k≤kx∧oZ (Lay wr w.heap.size v rs)∧oZ (rs.map (·.x)=(qZ (l.take k)).map Hq)∧oZ (Below w.heap.size w wr))
 case atStart=>exact⟨0,_,[],rfl,rfl,bV _,by omega,⟨Lay.nil _ _⟩,⟨rfl⟩,⟨bq _ _⟩⟩
 case round=>
  obtain⟨k,v,rs,rfl,rfl,hk,hkx,HL,HM,HB⟩:=hrel
  by_cases hlt:k<l.length
  ·obtain⟨ad,A0,c0,A1,c1,rfl,x0,x1,l0,g0,l1,g1⟩:=uY HR.o (k:Int) (by omega) (by omega);rw[bf] at x0 x1;replace x0:=qm HB.o x0;replace x1:=qm HB.o x1;have hkz:(k:Int)<(l.length:Int):=by omega
   have HGT:=Yu (Ev l k hlt);have HSL:oZ ((pK l (k:Int)).f0.length≤1000000∧tot (l.take k)+(pK l (k:Int)).f1.length≤1000000):=⟨by
    rw[qR hlt];refine⟨aeN.o _ (eF hlt),?_⟩;have h1:=z8 l (k+1);rw[cZ hlt,Aa] at h1;exact bM h1 HT.o⟩
   have HGL:=Yu (zk l k hk);have G0:=Yu g0;have G1:=Yu g1;clear l0 g0 l1 g1;generalize hs:pK l (k:Int)=s at *;clear hs
   by_cases hz:s.f1.length=0
   ·have HZ:=Yu hz;have hzb:((s.f1.length:Int)==0)=true:=by rw[hz];rfl
    have hzz:(s.f1.length:Int)=0:=by omega
    clear hz;have HL1:=Yu (HL.o.below (o8 (bq _ _) (.cells #[.slice A0 s.f0.length c0,.slice A1 s.f1.length c1] 51 (0,0))));have HB1:=Yu (o8 HB.o (.cells #[.slice A0 s.f0.length c0,.slice A1 s.f1.length c1] 51 (0,0)));generalize s.f0.length=L0 at x0 HL1 HB1;generalize s.f1.length=L1 at x1 HL1 HB1 hzb hzz;go_wp2
    go_roundg (l.length-(k+1))
    case measure=>omega
    case rel=>exact⟨k+1,_,rs,by go_num,rfl,by omega,aD _,HL1,⟨by rw[HM.o,HGT.o,stepG,ak HZ.o]⟩,HB1⟩
   ·have HZ:=Yu hz;have hzb:((s.f1.length:Int)==0)=false:=beq_eq_false_iff_ne.2 (by omega);have hzz:¬ (s.f1.length:Int)=0:=by omega
    clear hz;have HL1:=Yu (HL.o.below (o8 (bq _ _) (.cells #[.slice A0 s.f0.length c0,.slice A1 s.f1.length c1] 51 (0,0))));have HB1:=Yu (o8 HB.o (.cells #[.slice A0 s.f0.length c0,.slice A1 s.f1.length c1] 51 (0,0)));have HX1:=Yu (qG wr (.cells #[.slice A0 s.f0.length c0,.slice A1 s.f1.length c1] 51 (0,0)));have HBX:=Yu (show w.heap.size≤wr.heap.size from HB.o.size);generalize hL0:s.f0.length=L0 at x0 HL1 HB1 HX1 G0;generalize hL1:s.f1.length=L1 at x1 HL1 HB1 HX1 G1 hzb hzz;have HL0:=Yu hL0;have aeO:=Yu hL1;clear hL0 hL1
    go_upto_region 6 with (fail)
    clear HL HB x0 x1;generalize wr.alloc (.cells #[.slice A0 L0 c0,.slice A1 L1 c1] 51 (0,0))=W1 at HL1 HB1 HX1 ⊢;generalize wr.heap.size=bx at *;obtain⟨Av,cv,rfl,hcv,hC⟩:=HL1.o.reads;have HPL:oZ (∀ x∈rs.map (·.x),x.f0.length≤1000000):=⟨fun x hx=>by
     rw[HM.o] at hx;obtain⟨y,hy,rfl⟩:=List.mem_map.1 hx;obtain⟨q,hq,he⟩:=BH _ y hy;show y.f0.length≤_;rw[he];exact aeN.o q (dO hq)⟩
    have HRB:oZ (rs.length≤100000):=⟨by have:=HGL.o.1;rw[← bJ (f:=Hq),← HM.o,bJ] at this;omega⟩;have HIL:oZ (posB (rs.map (·.x)) s.f0≤rs.length):=⟨by have:=AQ (rs.map (·.x)) s.f0;rwa [bJ] at this⟩;have HC:=Yu hC;have HCV:=Yu hcv;have HPN:oZ ((rs.map (·.x)).length=rs.length):=⟨bJ ..⟩;clear hC hcv;generalize hpp:rs.map (·.x)=PQ at HM HPL HIL HC HPN;have HPP:=Yu hpp;clear hpp;generalize hi:posB PQ s.f0=i at HIL;have HI:=Yu hi;clear hi
    go_upto_block 2 with (fail)
    go_cut [6] (fun v6 wx=>v6 = .int .i64 (i:Nat)∧oZ (Below W1.heap.size W1 wx))
    case first=>
     go_wp2_with fail
     go_loopg [6] rs.length (fun kx s6 wr=>∃ (q:Nat),s6 = .int .i64 q∧q≤i∧rs.length-q≤kx∧oZ (Below W1.heap.size W1 wr))
     case atStart=>exact⟨0,rfl,bV _,by omega,⟨bq _ _⟩⟩
     case round=>
      clear hkx;obtain⟨q,rfl,hq,hkx,HBQ⟩:=hrel;have hrb:=HRB.o;have hil:=HIL.o;rcases eH q rs.length with hql | hql
      ·obtain⟨ad,Aq,cq,_,_,rfl,q0,_,lq0,gq0,_,_⟩:=uY (Kd.pI HC.o HBQ.o) (q:Int) (by omega) (by omega);rw[bf] at q0;have HQL:oZ ((pK PQ (q:Int)).f0.length≤1000000):=⟨by
        rw[qR (by rw[HPN.o];exact hql)];exact HPL.o _ (eF _)⟩
       have HNX:=Yu (fun h=>QA (G:=PQ) (t:=s.f0) (q:=q) (by rw[HI.o];exact hq) (by rw[HPN.o];exact hql) h);have HST:=Yu (fun h=>QB (G:=PQ) (t:=s.f0) (q:=q) (by rw[HI.o];exact hq) h);rw[HI.o] at HNX HST;have GQ:=Yu gq0;clear lq0 gq0;generalize (pK PQ (q:Int)).f0=t at q0 GQ HQL HNX HST;have C3:=Yu (fun W (hb:Below wr.heap.size wr W)=>TG.c Aq A0 cq c0 t.length L0 t s.f0 W rfl HL0.o (Kd.pI GQ.o hb) (Kd.pI G0.o (o9 (o9 HB1.o HBQ.o) hb)) HQL.o);have qA:=BW.cell q0;have sA:=BW.cell (pq (pG HX1.o HBQ.o) 0 |>.trans rfl);generalize cmpL t s.f0=z at C3 HNX HST;have gq:(q:Int)<(rs.length:Int):=by omega
       have g1:decide ((q:Int)<(rs.length:Int))=true:=aM gq;have gqn:decide (q<rs.length)=true:=aM hql
       by_cases hzc:z<0
       ·have g2:decide (z<0)=true:=aM hzc;have HQ1:=Yu (HNX.o hzc);clear q0 HNX HST
        go_wp2_with fail
        refine qL (by kernel_rfl) (by kernel_rfl) ?_
        repeat (any_goals (first | go_big_quiet_step (first|(go_at_call 50;refine qQ (C3.o _ (BW.hb _))))|quiet_step (first|(go_at_call 50;refine qQ (C3.o _ (BW.hb _))))))
        all_goals (refine fE ?_;intro _ hw';obtain⟨⟨w2,hb⟩,hw''⟩:=hw';subst hw'';have HB2:=Yu (o9 HBQ.o hb);clear hb)
        go_wp2
        go_roundg (rs.length-(q+1))
        case measure=>omega
        case rel=>exact⟨q+1,by go_num,HQ1.o,aD _,HB2⟩
       ·have g2:decide (z<0)=false:=aN hzc;have HQ1:=Yu (HST.o hzc);clear q0 HNX HST
        go_wp2_with fail
        refine qL (by kernel_rfl) (by kernel_rfl) ?_
        repeat (any_goals (first | go_big_quiet_step (first|(go_at_call 50;refine qQ (C3.o _ (BW.hb _))))|quiet_step (first|(go_at_call 50;refine qQ (C3.o _ (BW.hb _))))))
        all_goals (refine fE ?_;intro _ hw';obtain⟨⟨w2,hb⟩,hw''⟩:=hw';subst hw'';have HB2:=Yu (o9 HBQ.o hb);clear hb)
        go_wp2_with fail
        go_meet
        exact⟨by rw[← HQ1.o],HB2⟩
      ·have hqi:q=i:=by omega
       subst hqi;have gq:¬ (q:Int)<(rs.length:Int):=by omega
       have g1:decide ((q:Int)<(rs.length:Int))=false:=aN gq;have gn:¬ q<rs.length:=by omega
       have gqn:decide (q<rs.length)=false:=aN gn
       go_wp2_with fail
       go_quiet (fail)
       go_wp2_with fail
       go_meet
       exact⟨rfl,⟨pz HBQ.o _⟩⟩
    case rest=>
     obtain⟨rfl,HBQ⟩:=hcut
     go_upto_region 9 with (fail)
     go_cut [50] (fun v50 wx=>v50 = .bool (!yC PQ s.f0)∧oZ (Below W1.heap.size W1 wx))
     case first=>
      have hil:=HIL.o;rcases eH i rs.length with hql | hql
      ·obtain⟨ad,Aq,cq,_,_,rfl,q0,_,lq0,gq0,_,_⟩:=uY (Kd.pI HC.o HBQ.o) (i:Int) (by omega) (by omega);rw[bf] at q0;have HQL:oZ ((pK PQ (i:Int)).f0.length≤1000000):=⟨by
        rw[qR (by rw[HPN.o];exact hql)];exact HPL.o _ (eF _)⟩
       have HHG:oZ (yC PQ s.f0=decide (cmpL (pK PQ (i:Int)).f0 s.f0=0)):=⟨by
        unfold yC;rw[HI.o,HPN.o,aM hql,jl]⟩
       have GQ:=Yu gq0;clear lq0 gq0;generalize (pK PQ (i:Int)).f0=t at q0 GQ HQL HHG;have C3:=Yu (fun W (hb:Below wc.heap.size wc W)=>TG.c Aq A0 cq c0 t.length L0 t s.f0 W rfl HL0.o (Kd.pI GQ.o hb) (Kd.pI G0.o (o9 (o9 HB1.o HBQ.o) hb)) HQL.o);have qA:=BW.cell q0;have sA:=BW.cell (pq (pG HX1.o HBQ.o) 0 |>.trans rfl);generalize cmpL t s.f0=z at C3 HHG;have gq:¬ (i:Int)=(rs.length:Int):=by omega
       have g1:((i:Int)==(rs.length:Int))=false:=beq_eq_false_iff_ne.2 gq;have gn:¬ i=rs.length:=by omega
       have g3:(i==rs.length)=false:=beq_eq_false_iff_ne.2 gn
       by_cases hzc:z=0
       ·have HV:oZ (yC PQ s.f0=true):=⟨by rw[HHG.o,aM hzc]⟩;subst hzc;clear q0 HHG
        go_wp2_with fail
        refine qL (by kernel_rfl) (by kernel_rfl) ?_
        repeat (any_goals (first | go_big_quiet_step (first|(go_at_call 50;refine qQ (C3.o _ (BW.hb _))))|quiet_step (first|(go_at_call 50;refine qQ (C3.o _ (BW.hb _))))))
        all_goals (refine fE ?_;intro _ hw';obtain⟨⟨w2,hb⟩,hw''⟩:=hw';subst hw'';have HB2:=Yu (o9 HBQ.o hb);clear hb)
        go_wp2_with fail
        go_meet
        exact⟨by rw[HV.o];rfl,HB2⟩
       ·have HV:oZ (yC PQ s.f0=false):=⟨by rw[HHG.o,aN hzc]⟩;have g2:decide (z=0)=false:=aN hzc;have g4:(z==0)=false:=beq_eq_false_iff_ne.2 hzc;have g5:(z != 0)=true:=bne_iff_ne.2 hzc;clear q0 HHG
        go_wp2_with fail
        refine qL (by kernel_rfl) (by kernel_rfl) ?_
        repeat (any_goals (first | go_big_quiet_step (first|(go_at_call 50;refine qQ (C3.o _ (BW.hb _))))|quiet_step (first|(go_at_call 50;refine qQ (C3.o _ (BW.hb _))))))
        all_goals (refine fE ?_;intro _ hw';obtain⟨⟨w2,hb⟩,hw''⟩:=hw';subst hw'';have HB2:=Yu (o9 HBQ.o hb);clear hb)
        go_wp2_with fail
        go_meet
        exact⟨by rw[HV.o];rfl,HB2⟩
      ·have hqi:i=rs.length:=by omega
       have HV:oZ (yC PQ s.f0=false):=⟨by
        unfold yC;rw[HI.o,HPN.o,aN (by omega),kS]⟩
       have gq:(i:Int)=(rs.length:Int):=by omega
       have g1:((i:Int)==(rs.length:Int))=true:=beq_iff_eq.2 gq;have g3:(i==rs.length)=true:=beq_iff_eq.2 hqi
       go_wp2_with fail
       go_quiet (fail)
       go_wp2_with fail
       go_meet
       exact⟨by rw[HV.o];rfl,⟨pz HBQ.o _⟩⟩
     case rest=>
      clear HBQ;obtain⟨rfl,afy⟩:=hcut;have HL2:=Yu (HL1.o.below afy.o);have HX2:=Yu (pG HX1.o afy.o);have HBQ:=Yu (o9 HB1.o afy.o);clear HL1 HX1 HB1 afy;have y0:=pq HX2.o 0;have y1:=pq HX2.o 1
      go_upto_if 50 with (fail)
      go_cut [3] (fun v3 wx=>∃ rs3:List Rec,oZ (Lay wx w.heap.size v3 rs3)∧oZ (rs3.map (·.x)=uT PQ s.f0)∧oZ (Below w.heap.size w wx)∧oZ (wx.heap[bx]? = some (.cells #[.slice A0 L0 c0,.slice A1 L1 c1] 51 (0,0))))
      case first=>
       generalize hfb:yC PQ s.f0=fb;have aeP:=Yu hfb;clear hfb;cases fb with
       | true=>
         go_wp2_with fail
         go_meet
         exact⟨rs,HL2,⟨by rw[uT,ak aeP.o];exact HPP.o⟩,HBQ,HX2⟩
       | false=>
         have hil:=HIL.o;have hcv:=HCV.o;have akJ:(i:Int)≤(cv:Int):=by omega
         have ahV:(i:Int)≤(rs.length:Int):=by omega
         have afz:=(Kd.pR (HL2.o.below (rM (bq _ _))).1).2.2;rw[bJ] at afz;have HTK:oZ (∀ W,Below wc.drew.heap.size wc.drew W→(Kd.raw 2).C W Av i ((rs.map vH).take i)):=⟨fun W hb=>by
          have:=Kd.zI (m:=i) (by rw[bJ];exact Kd.pI afz hb) (by rw[bJ];exact hil);rwa [bG,bJ,dY hil] at this⟩
         have HDR:oZ (∀ W,Below wc.drew.heap.size wc.drew W→(Kd.raw 2).C W (if cv=i then Av else Av.map (·.add (i*2))) (rs.length-i) ((rs.map vH).drop i)):=⟨fun W hb=>by
          have:=Kd.Dp (m:=i) (by rw[bJ];exact Kd.pI afz hb) (by rw[bJ];exact hil) (by rw[bJ];exact hcv);rwa [bB,bJ] at this⟩
         clear afz;rw[Bool.not_false]
         go_upto_region 10 with (fail)
         refine Ee (n:=16) (ds:=[7,9,10,14]) (S:=fun w'=>w'.cell? ⟨bx,0,none⟩=some (.slice A0 L0 c0)) #[false,false,false,false,false,false,false,false,false,false,false,false,false,false,false,false] mixed rfl rfl y0 (fun hS=>?_);refine rJ (i:=1) (N:=some 52) (v:=?_) (a':=?_) #[false,true,false,false,false,false,false,false,false,false,false,false,false,false,false,false] rfl rfl (by kernel_rfl) (fun _ _ _ h=>h) (Or.inl ⟨by rfl,?_⟩) ?_ ?_
         rotate_left
         ·intro w';go_simp
          try (with_reducible rfl)
         rotate_left
         ·simp only[Act.put,ah,aI,ay];rfl
         refine rJ (i:=2) (N:=some 53) (v:=?_) (a':=?_) #[false,true,true,false,false,false,false,false,false,false,false,false,false,false,false,false] rfl rfl (by kernel_rfl) (fun _ _ _ h=>h) (Or.inl ⟨by rfl,?_⟩) ?_ ?_
         rotate_left
         ·intro w';go_simp
          try (with_reducible rfl)
         rotate_left
         ·simp only[Act.put,ah,aI,ay];rfl
         refine rJ (i:=3) (N:=some 54) (v:=?_) (a':=?_) #[false,true,true,true,false,false,false,false,false,false,false,false,false,false,false,false] rfl rfl (by kernel_rfl) (fun _ _ _ h=>h) (Or.inl ⟨by rfl,?_⟩) ?_ ?_
         rotate_left
         ·intro w';go_simp
          try (with_reducible rfl)
         rotate_left
         ·simp only[Act.put,ah,aI,ay];rfl
         refine rJ (i:=5) (N:=some 56) (v:=?_) (a':=?_) #[false,true,true,true,false,true,false,false,false,false,false,false,false,false,false,false] rfl rfl (by kernel_rfl) (fun _ _ _ h=>h) (Or.inl ⟨by rfl,?_⟩) ?_ ?_
         rotate_left
         ·intro w';go_simp
          try (with_reducible rfl)
         rotate_left
         ·simp only[Act.put,ah,aI,ay];rfl
         refine rJ (i:=11) (N:=some 62) (v:=?_) (a':=?_) #[false,true,true,true,false,true,false,false,false,false,false,true,false,false,false,false] rfl rfl (by kernel_rfl) (fun _ _ _ h=>h) (Or.inl ⟨by rfl,?_⟩) ?_ ?_
         rotate_left
         ·intro w';go_simp
          try (with_reducible rfl)
         rotate_left
         ·simp only[Act.put,ah,aI,ay];rfl
         refine rJ (i:=12) (N:=some 63) (v:=?_) (a':=?_) #[false,true,true,true,false,true,false,false,false,false,false,true,true,false,false,false] rfl rfl (by kernel_rfl) (fun _ _ _ h=>h) (Or.inl ⟨by rfl,?_⟩) ?_ ?_
         rotate_left
         ·intro w';go_simp
          try (with_reducible rfl)
         rotate_left
         ·simp only[Act.put,ah,aI,ay];rfl
         refine rJ (i:=13) (N:=some 64) (v:=?_) (a':=?_) #[false,true,true,true,false,true,false,false,false,false,false,true,true,true,false,false] rfl rfl (by kernel_rfl) (fun _ _ _ h=>h) (Or.inl ⟨by rfl,?_⟩) ?_ ?_
         rotate_left
         ·intro w';go_simp
          try (with_reducible rfl)
         rotate_left
         ·simp only[Act.put,ah,aI,ay];rfl
         refine Bw (i:=6) (N:=some 57) (v:=?_) (a':=?_) #[false,true,true,true,false,true,true,false,false,false,false,true,true,true,false,false] rfl rfl (by kernel_rfl) (fun _ _ _ h=>h) (Or.inl ⟨by rfl,?_⟩) hS ?_ ?_
         rotate_left
         ·rintro w' hc1;go_simp
          try (with_reducible rfl)
         rotate_left
         ·simp only[Act.put,ah,aI,ay];rfl
         have agK:=Yu (HL2.o.below (rM (bq _ _)));have afA:oZ (wc.drew.heap[bx]? = some (.cells #[.slice A0 L0 c0,.slice A1 L1 c1] 51 (0,0))):=HX2;have aeU:=Yu (pF HBQ.o);clear HL2 HX2 HBQ y0 y1 hS;generalize wc.drew=w4 at agK afA aeU HTK HDR ⊢;have ajJ:=Yu agK.o.1;have akK:=Yu (Kd.pR ajJ.o).2.2;refine ER (i:=0) (N:=some 51) #[true,true,true,true,false,true,true,false,false,false,false,true,true,true,false,false] rfl rfl (by kernel_rfl) (by decide) (fun K hK=>?_);refine Ad (v:=?_) (w1:=?_) (by rfl) rfl ?_ ?_
         rotate_left;rotate_left
         ·go_simp
          refine⟨?_,?_⟩<;>rfl
         have hE:=Yu (xH (Kd.raw 2) 51 w4.heap.size w4 (fun _=>True) (aD _) dD);have HB5:=Yu (o8 (bq w4.heap.size w4) (.cells #[] 51 (0,0)));refine hK.o _ _ (pq (pG afA.o HB5.o) 0) (fun hS9=>?_);clear hK hS9;clear K;refine vv (a':=?_) ?_ ?_
         rotate_left
         ·show Act.put _ (some 51) _=_;simp only[Act.put,ah,aI,ay];rfl
         refine ER (i:=4) (N:=some 55) #[true,true,true,true,true,true,true,false,false,false,false,true,true,true,false,false] rfl rfl (by kernel_rfl) (by decide) (fun K hK=>?_);refine Kd.qV (Kd.raw 2) (w0:=w4) w4.heap.size (by rfl) (.tmp 51) (.tmp 54) 22 51 (.agg #[.slice none 0 0,.slice none 0 0]) 48 rfl Tryz.underlying22 zl rfl (by decide) (by omega) _ [] ((rs.map vH).take i) Av i cv (fun _=>True) (fun _=>False) rfl rfl hE.o (HTK.o _ HB5.o) (fun x cs hx=>hx) (fun _ hk=>hk.elim) (fun _ _=>dD) HB5.o ?hb ?hl ?_
         case hb=>exact HB5.o.size
         case hl=>(have:=HRB.o;have:=HIL.o;simp;omega)
         intro v5 w5 hR5 hB5 hg5 ajK;rw[dL] at hR5;have HR5:=Yu hR5;have HB6:=Yu hB5;clear hR5 hB5 hg5 ajK;refine hK.o _ _ (pq (pG afA.o HB6.o) 0) (fun hS9=>?_);clear hK hS9;clear K;refine vv (a':=?_) ?_ ?_
         rotate_left
         ·show Act.put _ (some 55) _=_;simp only[Act.put,ah,aI,ay];rfl
         refine EB (i:=7) (N:=some 58) #[true,true,true,true,true,true,true,true,false,false,false,true,true,true,false,false] rfl rfl (by kernel_rfl) (by decide) (fun K hK=>?_);refine SG Tryz.func51 (by kernel_rfl) rfl #[.slice A0 L0 c0] (by rfl) rfl rfl (by rw[dI];rfl) ?_;refine (Xu.c A0 c0 s.f0 L0 _ HL0.o (by rw[HL0.o];exact Kd.pI G0.o (o9 aeU.o HB6.o)) HSL.o.1).mono ?_;rintro e w6 ⟨lv,rfl,hRL,hb⟩;obtain⟨Al,cl,rfl⟩:=Kd.qo hRL;have ajL:=Yu hRL;have HR6:=Yu (Kd.qO HR5.o hb);have HB7:=Yu (o9 HB6.o hb);clear hRL;refine⟨_,rfl,hK.o _ _ ?_⟩;clear hK K;refine vv (a':=?_) ?_ ?_
         rotate_left
         ·show Act.put _ (some 58) _=_;simp only[Act.put,ah,aI,ay];rfl
         refine rJ (i:=8) (N:=some 59) (v:=?_) (a':=?_) #[true,true,true,true,true,true,true,true,true,false,false,true,true,true,false,false] rfl rfl (by kernel_rfl) (fun _ _ _ h=>h) (Or.inl ⟨by rfl,?_⟩) ?_ ?_
         rotate_left
         ·intro w';go_simp
          try (with_reducible rfl)
         rotate_left
         ·simp only[Act.put,ah,aI,ay];rfl
         refine EB (i:=9) (N:=some 60) #[true,true,true,true,true,true,true,true,true,true,false,true,true,true,false,false] rfl rfl (by kernel_rfl) (by decide) (fun K hK=>?_);refine Ad (v:=?_) (w1:=?_) (by rfl) rfl ?_ ?_
         rotate_left;rotate_left
         ·go_simp
          refine⟨?_,?_⟩<;>rfl
         have ah2:=Yu (Kd.vO ajL.o (.cells #[.slice Al s.f0.length cl,.slice none 0 0] 51 (0,0)));have HR7:=Yu (Kd.vO HR6.o (.cells #[.slice Al s.f0.length cl,.slice none 0 0] 51 (0,0)));have HB8:=Yu (o8 HB7.o (.cells #[.slice Al s.f0.length cl,.slice none 0 0] 51 (0,0)));have ajM:=Yu (Xb (qG w6 (.cells #[.slice Al s.f0.length cl,.slice none 0 0] 51 (0,0))) rfl rfl);refine hK.o _ _ ?_;clear hK K;refine vv (a':=?_) ?_ ?_
         rotate_left
         ·show Act.put _ (some 60) _=_;simp only[Act.put,ah,aI,ay];rfl
         refine EB (i:=10) (N:=some 61) #[true,true,true,true,true,true,true,true,true,true,true,true,true,true,false,false] rfl rfl (by kernel_rfl) (by decide) (fun K hK=>?_);refine Kd.qV (Kd.raw 2) (w0:=w4) w4.heap.size (by rfl) (.tmp 55) (.tmp 60) 22 51 (.agg #[.slice none 0 0,.slice none 0 0]) 48 rfl Tryz.underlying22 zl rfl (by decide) (by omega) v5 ((rs.map vH).take i) [[.slice Al s.f0.length cl,.slice none 0 0]] (some ⟨w6.heap.size,0,none⟩) 1 1 (fun _=>True) (fun _=>False) rfl rfl HR7.o ajM.o (fun x cs hx=>hx) (fun _ hk=>hk.elim) (fun _ _=>dD) HB8.o ?hb ?hl ?_
         case hb=>exact HB8.o.size
         case hl=>(have:=HRB.o;have:=HIL.o;simp;omega)
         intro v8 w8 hR8 hB8 hg8 ajN;have HR8:=Yu hR8;have HB9:=Yu hB8;have ah3:=Yu (wF rfl ah2.o hg8 (wG (by decide) ah2.o HR7.o));clear hR8 hB8 hg8 ajN;refine hK.o _ _ ?_;clear hK K;refine vv (a':=?_) ?_ ?_
         rotate_left
         ·show Act.put _ (some 61) _=_;simp only[Act.put,ah,aI,ay];rfl
         refine EB (i:=14) (N:=some 65) #[true,true,true,true,true,true,true,true,true,true,true,true,true,true,true,false] rfl rfl (by kernel_rfl) (by decide) (fun K hK=>?_);refine Kd.qV (Kd.raw 2) (w0:=w4) w4.heap.size (by rfl) (.tmp 61) (.tmp 64) 22 51 (.agg #[.slice none 0 0,.slice none 0 0]) 48 rfl Tryz.underlying22 zl rfl (by decide) (by omega) v8 _ ((rs.map vH).drop i) _ _ _ (fun _=>True) (fun _=>False) rfl rfl HR8.o (HDR.o _ HB9.o) (fun x cs hx=>hx) (fun _ hk=>hk.elim) (fun _ _=>dD) HB9.o ?hb ?hl ?_
         case hb=>exact HB9.o.size
         case hl=>(have:=HRB.o;have:=HIL.o;simp;omega)
         intro v9 w9 hR9 hB9 hg9 akL;have ajO:=Yu (wF rfl ah3.o hg9 (wG (by decide) ah3.o HR8.o));refine hK.o _ _ ?_;clear hK K;refine vv (a':=?_) ?_ ?_
         rotate_left
         ·show Act.put _ (some 65) _=_;simp only[Act.put,ah,aI,ay];rfl
         refine rJ (i:=15) (N:=some 3) (v:=?_) (a':=?_) #[true,true,true,true,true,true,true,true,true,true,true,true,true,true,true,true] rfl rfl (by kernel_rfl) (fun _ _ _ h=>h) (Or.inl ⟨by rfl,?_⟩) ?_ ?_
         rotate_left
         ·intro w';go_simp
          try (with_reducible rfl)
         rotate_left
         ·simp only[Act.put,ah,aI,ay];rfl
         refine Jb (by kernel_rfl) ?_
         try go_wp2
         all_goals
          go_meet
          refine⟨rs.take i++[⟨⟨s.f0,[]⟩,.slice Al s.f0.length cl,.slice none 0 0⟩]++rs.drop i,⟨Lay.insert agK.o (⟨hB9.os,hB9.tape,hB9.output,hB9.size,fun k hk _=>hB9.block k hk⟩) i ⟨⟨s.f0,[]⟩,.slice Al s.f0.length cl,.slice none 0 0⟩ (Kd.sj hR9 aeU.o.size) (Kd.sj ajO.o (bM aeU.o.size HB6.o.size)) (Kd.ug _ _ _ _ _) rfl⟩,⟨?_⟩,⟨o9 aeU.o hB9⟩,⟨pG afA.o hB9⟩⟩;rw[uT,aK (by rw[aeP.o];simp),HI.o,BJ,gY,gY,nN,nO,HPP.o];rfl
      case rest=>
       obtain⟨rs3,HL3,HM3,HB3,HX3⟩:=hcut;clear HL2 HX2 HBQ y0 y1;have hil:i<rs3.length:=by
        have:=(AU PQ s.f0).1;rw[HI.o,← HM3.o,bJ] at this;exact this
       obtain⟨gv,adv,hv3,hgv⟩:=GR HL3.o (by omega);subst hv3;have HGV:=Yu hgv;have akM:=Yu hil;have y1:=pq HX3.o 1;have aeV:oZ (i<(uT PQ s.f0).length):=⟨by rw[← HM3.o,bJ];exact hil⟩;have HLT:oZ ((pK (uT PQ s.f0) (i:Int)).f1.length+L1≤1000000):=⟨by
        have h0:∀ x∈uT PQ s.f0,x.f1.length+L1≤1000000:=fun x h1=>by
         have h2:=HSL.o.2;rw[aeO.o] at h2;rcases G9 h1 with h1 | h1
         ·rw[HM.o] at h1;obtain⟨y,hy,he⟩:=List.mem_map.1 h1;have h3:=HGL.o.2 _ hy;have h4:=BZ y.f1;rw[← he];show (tN y.f1).length+L1≤_;omega
         ·rw[h1];show (0:Nat)+L1≤_;omega
        refine h0 _ ?_;rw[qR aeV.o];exact eF _⟩
       have HST:oZ ((qZ (l.take (k+1))).map Hq=Da (uT PQ s.f0) i s.f1):=⟨by
        rw[HGT.o,QT _ _ HZ.o,← HM.o,HI.o]⟩
       generalize hn3:rs3.length=n at HL3;have HN3:=Yu hn3;have hiz:(i:Int)<(n:Int):=by omega
       have hnz:n≤adv:=by
        have:=Kd.pR HL3.o.1;obtain⟨_,_,h,_,h2,_⟩:=HL3.o.reads;simp only[kJ] at h;omega
       have hL1:L1≤1000000:=by have:=HLT.o;omega
       clear hgv hn3 hil;generalize hPP:uT PQ s.f0=PP at HM3 aeV HLT HST;clear hPP;go_wp2
       go_loopg [69] L1 (fun kx s69 wr=>∃ (j:Nat) (rs4:List Rec),s69 = .int .i64 j∧j≤L1∧L1-j≤kx∧oZ (Lay wr w.heap.size (.slice (some ⟨gv,0,none⟩) n adv) rs4)∧oZ (rs4.map (·.x)=Da PP i (s.f1.take j))∧oZ (Below w.heap.size w wr))
       case atStart=>exact⟨0,rs3,rfl,bV _,by omega,HL3,⟨by rw[HM3.o,lW,Ua aeV.o]⟩,HB3⟩
       case round=>
        clear y1;obtain⟨j,rs4,rfl,hj,akN,agL,HM4,afB⟩:=hrel;clear HL3 HM3 HB3 HX3
        by_cases hjl:j<L1
        ·obtain⟨ad,rfl,p0,p1⟩:=uD (Kd.pI G1.o afB.o) (j:Int) (by omega) (by omega);rw[bf] at p0 p1;have hjz:(j:Int)<(L1:Int):=by omega
         have HTJ:oZ (s.f1.take j++[pV s.f1 (j:Int)]=s.f1.take (j+1)):=⟨by
          have hjs:j<s.f1.length:=by rw[aeO.o];exact hjl
          have:pV s.f1 (j:Int)=s.f1[j]:=by simp[pV,bn,aQ hjs]
          rw[cZ hjs,this]⟩
         generalize pV s.f1 (j:Int)=p at p0 p1 HTJ;have aeW:=Yu (agL.o.below (o8 (bq _ _) (.cells #[.int .i64 p.f0,.int .u64 p.f1] 70 (0,0))));have aeX:=Yu (o8 afB.o (.cells #[.int .i64 p.f0,.int .u64 p.f1] 70 (0,0)));have HXB:=Yu (qG wr (.cells #[.int .i64 p.f0,.int .u64 p.f1] 70 (0,0)))
         go_upto_region 14 with (fail)
         clear agL afB p0 p1;generalize wr.alloc (.cells #[.int .i64 p.f0,.int .u64 p.f1] 70 (0,0))=W4 at aeW aeX HXB ⊢;generalize wr.heap.size=bs at HXB ⊢;have HL4:=Yu (aeW.o.below (rM (bq _ _)));have HBD:=Yu (pF aeX.o);have hrl:i<rs4.length:=by
          have h1:=T9 PP i (s.f1.take j);rw[← HM4.o,bJ] at h1;have:=aeV.o;omega
         obtain⟨r,hri⟩:∃ r,rs4[i]? = some r:=⟨_,aQ hrl⟩;have HRI:=Yu hri;have HRX:oZ (r.x=⟨(pK PP (i:Int)).f0,tY (pK PP (i:Int)).f1 (s.f1.take j)⟩):=⟨by
          have h1:=Vn aeV.o (s.f1.take j);rw[← HM4.o,fC,hri] at h1
          simpa using h1⟩
         obtain⟨As,cs,hsv,hcs,hCs⟩:=Kd.za (HL4.o.2.1 r (dP hri)).2;obtain⟨_,x2,_,_⟩:=GN HL4.o i r hri;rw[hsv] at x2;have HNL:oZ (r.x.f1.length≤1000000):=⟨by
          rw[HRX.o];have h1:=Ca (s.f1.take j) (pK PP (i:Int)).f1;rw[bG] at h1;have:=HLT.o;show (tY _ _).length≤_;omega⟩
         have b0:=pq (pG HXB.o (rM (bq _ _))) 0;have b1:=pq (pG HXB.o (rM (bq _ _))) 1;generalize hns:r.x.f1.length=ns at x2 hcs hCs HNL;have HNS:=Yu hns;have HNC:=Yu hcs;have HCS:=Yu hCs;clear hri hsv hcs hCs hns hrl aeW aeX HXB;replace b0:W4.drew.cell? ⟨bs,0,none⟩=some (.int .i64 p.f0):=b0;replace b1:W4.drew.cell? ⟨bs,1,none⟩=some (.int .u64 p.f1):=b1;refine Ee (n:=12) (ds:=[8,11]) (S:=fun w'=>w'.cell? ⟨gv,i*2+1,none⟩=some (.slice As ns cs)∧w'.cell? ⟨bs,0,none⟩=some (.int .i64 p.f0)∧w'.cell? ⟨bs,1,none⟩=some (.int .u64 p.f1)) #[false,false,false,false,false,false,false,false,false,false,false,false] mixed rfl rfl ⟨x2,b0,b1⟩ (fun hS=>?_);refine rJ (i:=0) (N:=some 73) (v:=?_) (a':=?_) #[true,false,false,false,false,false,false,false,false,false,false,false] rfl rfl (by kernel_rfl) (fun _ _ _ h=>h) (Or.inl ⟨by rfl,?_⟩) ?_ ?_
         rotate_left
         ·intro w';go_simp
          try (with_reducible rfl)
         rotate_left
         ·simp only[Act.put,ah,aI,ay];rfl
         refine rJ (i:=1) (N:=some 74) (v:=?_) (a':=?_) #[true,true,false,false,false,false,false,false,false,false,false,false] rfl rfl (by kernel_rfl) (fun _ _ _ h=>h) (Or.inl ⟨by rfl,?_⟩) ?_ ?_
         rotate_left
         ·intro w';go_simp
          try (with_reducible rfl)
         rotate_left
         ·simp only[Act.put,ah,aI,ay];rfl
         refine rJ (i:=2) (N:=some 75) (v:=?_) (a':=?_) #[true,true,true,false,false,false,false,false,false,false,false,false] rfl rfl (by kernel_rfl) (fun _ _ _ h=>h) (Or.inl ⟨by rfl,?_⟩) ?_ ?_
         rotate_left
         ·intro w';go_simp
          try (with_reducible rfl)
         rotate_left
         ·simp only[Act.put,ah,aI,ay];rfl
         refine rJ (i:=3) (N:=some 76) (v:=?_) (a':=?_) #[true,true,true,true,false,false,false,false,false,false,false,false] rfl rfl (by kernel_rfl) (fun _ _ _ h=>h) (Or.inl ⟨by rfl,?_⟩) ?_ ?_
         rotate_left
         ·intro w';go_simp
          try (with_reducible rfl)
         rotate_left
         ·simp only[Act.put,ah,aI,ay];rfl
         refine rJ (i:=4) (N:=some 77) (v:=?_) (a':=?_) #[true,true,true,true,true,false,false,false,false,false,false,false] rfl rfl (by kernel_rfl) (fun _ _ _ h=>h) (Or.inl ⟨by rfl,?_⟩) ?_ ?_
         rotate_left
         ·intro w';go_simp
          try (with_reducible rfl)
         rotate_left
         ·simp only[Act.put,ah,aI,ay];rfl
         refine rJ (i:=5) (N:=some 78) (v:=?_) (a':=?_) #[true,true,true,true,true,true,false,false,false,false,false,false] rfl rfl (by kernel_rfl) (fun _ _ _ h=>h) (Or.inl ⟨by rfl,?_⟩) ?_ ?_
         rotate_left
         ·intro w';go_simp
          try (with_reducible rfl)
         rotate_left
         ·simp only[Act.put,ah,aI,ay];rfl
         refine Bw (i:=6) (N:=some 79) (v:=?_) (a':=?_) #[true,true,true,true,true,true,true,false,false,false,false,false] rfl rfl (by kernel_rfl) (fun _ _ _ h=>h) (Or.inl ⟨by rfl,?_⟩) hS ?_ ?_
         rotate_left
         ·rintro w' ⟨hc1,hc2,hc3⟩;go_simp
          try (with_reducible rfl)
         rotate_left
         ·simp only[Act.put,ah,aI,ay];rfl
         refine Bw (i:=7) (N:=some 80) (v:=?_) (a':=?_) #[true,true,true,true,true,true,true,true,false,false,false,false] rfl rfl (by kernel_rfl) (fun _ _ _ h=>h) (Or.inl ⟨by rfl,?_⟩) hS ?_ ?_
         rotate_left
         ·rintro w' ⟨hc1,hc2,hc3⟩;go_simp
          try (with_reducible rfl)
         rotate_left
         ·simp only[Act.put,ah,aI,ay];rfl
         generalize W4.drew=wd at *;refine EB (i:=8) (N:=some 81) #[true,true,true,true,true,true,true,true,true,false,false,false] rfl rfl (by kernel_rfl) (by decide) (fun K hK=>?_);refine SG Tryz.func52 (by kernel_rfl) rfl #[.slice As ns cs,.agg #[.int .i64 p.f0,.int .u64 p.f1]] (by rfl) rfl rfl (by rw[dI];rfl) ?_;refine (Yg.c As cs ns r.x.f1 p _ HNS.o HCS.o HNC.o HNL.o).mono ?_;rintro e w1 ⟨v1,rfl,hR1,hB1⟩;have HG1:oZ (wd.grownBy w1 r.sv.ownBlock):=⟨⟨hB1.os,hB1.tape,hB1.output,hB1.size,fun k hk _=>hB1.block k hk⟩⟩;have HAT:oZ (v1.ownBlock=r.sv.ownBlock∨∃ b,v1.ownBlock=some b∧wd.heap.size≤b):=⟨by
          obtain⟨g,cap,hv,hbg,_⟩:=Kd.FT hR1 (Hu r.x.f1 p).1;exact .inr ⟨g,by rw[hv];rfl,hbg⟩⟩
         have HR1:=Yu (Kd.sj hR1 HBD.o.size);have HB4:=Yu (o9 HBD.o hB1);clear hR1 hB1;obtain⟨A9,c9,hv9⟩:=Kd.qo HR1.o;generalize (wN r.x.f1 p).length=n9 at hv9;subst hv9;refine⟨_,rfl,hK.o _ _ ?_⟩;clear hK K;refine vv (a':=?_) ?_ ?_
         rotate_left
         ·show Act.put _ (some 81) _=_;simp only[Act.put,ah,aI,ay];rfl
         have HRR:oZ (RR w1 w.heap.size (.slice (some ⟨gv,0,none⟩) n adv) (rs4.map vH)):=⟨wF rfl HL4.o.1 HG1.o (wG (by decide) HL4.o.1 (HL4.o.2.1 r (dP HRI.o)).2)⟩;obtain⟨_,z1,_,z3⟩:=Fx HRR.o i r.lv r.sv (by rw[fC,HRI.o];rfl);have HL5:=Yu (Lay.samples HL4.o i r HRI.o HG1.o HR1.o HAT.o);have HB5:=Yu (pW (j:=i*2+1) (v := .slice A9 n9 c9) HB4.o HGV.o);refine rJ (i:=9) (N:=some 82) (v:=?_) (a':=?_) #[true,true,true,true,true,true,true,true,true,true,false,false] rfl rfl (by kernel_rfl) (fun _ _ _ h=>h) (Or.inl ⟨by rfl,?_⟩) ?_ ?_
         rotate_left
         ·intro w';go_simp
          try (with_reducible rfl)
         rotate_left
         ·simp only[Act.put,ah,aI,ay];rfl
         refine rJ (i:=10) (N:=some 83) (v:=?_) (a':=?_) #[true,true,true,true,true,true,true,true,true,true,true,false] rfl rfl (by kernel_rfl) (fun _ _ _ h=>h) (Or.inl ⟨by rfl,?_⟩) ?_ ?_
         rotate_left
         ·intro w';go_simp
          try (with_reducible rfl)
         rotate_left
         ·simp only[Act.put,ah,aI,ay];rfl
         refine EB (i:=11) (N:=none) #[true,true,true,true,true,true,true,true,true,true,true,true] rfl rfl (by kernel_rfl) (by decide) (fun K hK=>?_);refine V3 (w1:=?_) (by rfl) rfl ?_ ?_
         rotate_left
         ·go_simp
          rfl
         refine hK.o _ _ ?_;clear hK K;refine Jb (by kernel_rfl) ?_
         try go_wp2
         go_roundg (L1-(j+1))
         case measure=>omega
         case rel=>exact⟨j+1,_,by first | rfl | go_num,by omega,aD _,HL5,⟨by
          rw[kL,HM4.o];show (Da PP i (s.f1.take j)).set i ⟨r.x.f0,wN r.x.f1 p⟩=_;rw[HRX.o,QL,HTJ.o]⟩,HB5⟩
        ·obtain rfl:j=L1:=by omega
         have hjz:¬ (j:Int)<(j:Int):=by omega
         have ajP:oZ (rs4.map (·.x)=(qZ (l.take (k+1))).map Hq):=⟨by rw[HM4.o,HST.o,← aeO.o,dW]⟩;go_wp2
         go_roundg (l.length-(k+1))
         case measure=>omega
         case rel=>exact⟨k+1,_,rs4,by go_num,rfl,by omega,aD _,agL,ajP,afB⟩
  ·obtain rfl:k=l.length:=by omega
   have hkz:¬ (l.length:Int)<(l.length:Int):=by omega
   rw[dW] at HM;obtain⟨A2,c2,hu,hc2,hC⟩:=HL.o.reads;have acG:(joinL l).length=rs.length:=by
    have h:=gG List.length HM.o;rw[bJ] at h;exact h.symm
   have HJ:oZ (rs.map (·.x)=joinL l):=⟨HM.o⟩;rw[HJ.o] at hC;subst hu;have HCC:=Yu hC;have HC2:=Yu hc2;have HLEN:=Yu acG;clear hC hc2 acG;go_wp2;go_ret;refine⟨A2,c2,by rw[HLEN.o];rfl,by rw[HLEN.o];exact HC2.o,by rw[HLEN.o];exact HCC.o,HB.o⟩
end Go.Proofs.Y.PA

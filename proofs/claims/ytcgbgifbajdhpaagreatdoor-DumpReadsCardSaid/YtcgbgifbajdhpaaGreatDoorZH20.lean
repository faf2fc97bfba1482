/- Of the law ZHQDumpReads. -/
import Derived.Test.YtcgbgifbajdhpaaGreatDoorZH13
import Derived.Test.YtcgbgifbajdhpaaGreatDoorZH7
set_option linter.unusedVariables false
set_option linter.unusedSimpArgs false
set_option maxHeartbeats 2000000
set_option maxRecDepth 100000
namespace Go
abbrev bn:=@Go.bodyPost_ret
abbrev iF:=@Nat.ne_of_lt
end Go
namespace Go.Proofs.Y.PA
open Go.RowKit Go.Proofs.Y.G Go.Proofs.YW.oO Go.Proofs.YW.pq Go.Proofs.YW.pz
def zM.f (l:List Int)(a0 a1 a2:Int):Option (List Int × Int × Int):=
 if l.length≤900000000 then (qZ.f l a0).bind fun b=>if b=true then (if a2<0 then some ([],0,1) else if 64<a2 then some ([],0,1) else (sj.f l a0 a1 a2).bind fun r=>some (r.1,r.2,0)) else some ([],0,1)
 else none
theorem zM.c (Zf:Option Addr)(Zg:Nat)(Y9:List Int)(Za:Int)(a1:Int)(a2:Int)(r1:List Int)(r2:Int)(r3:Int)(w:World)(Z4:Kd.C (Kd.int .u8) w Zf Y9.length Y9)(Z5:Y9.length≤Zg)(h:zM.f Y9 Za a1 a2=some (r1,r2,r3)) :
 Calls Tryz.prog 123 #[.agg #[.slice Zf Y9.length Zg,.int .i64 Za],.int .u64 a1,.int .i64 a2] w fun e w'=>∃ v0_:Value,e = .returned (.tuple #[.agg #[v0_,.int .i64 r2],.int .i64 r3])∧Kd.R (Kd.int .u8) 5 w' w.heap.size (fun _=>True) v0_ r1∧Below w.heap.size w w':=by
 have amw:=Tryz.underlying149;unfold zM.f at h;split at h
 case isFalse=>cases h
 case isTrue hlen=>
 obtain⟨b,hcan,h⟩:=Option.bind_eq_some_iff.mp h;have HR:=Y7 Z4;have HC:=Y7 Z5;have HL:=Y7 hlen;have H:=Y7 h;clear Z4 Z5 hlen h
 go_enter Tryz.func123,Tryz.ntmps123
 go_wp2_with (fail)
 refine (qZ.c Zf Zg Y9 Za b _ ?c1 HC.o hcan).mono ?_
 case c1=>exact Kd.rP (Kd.rP HR.o _) _
 rintro e w1 ⟨rfl,hb⟩;have BK0:=Y7 (o7 (g:=w.heap.size) (o := .cells #[.slice Zf Y9.length Zg,.int .i64 Za] 149 (0,0)) (pK (qx w _) _) hb);have BK1:=Y7 (o7 (g:=w.heap.size+1) (o := .cells #[.slice none 0 0,.int .i64 0] 149 (0,0)) (by have:=qx (w.alloc (.cells #[.slice Zf Y9.length Zg,.int .i64 Za] 149 (0,0))) (.cells #[.slice none 0 0,.int .i64 0] 149 (0,0));rw[show (w.alloc (.cells #[.slice Zf Y9.length Zg,.int .i64 Za] 149 (0,0))).heap.size=w.heap.size+1 by simp] at this;exact this) hb);have HB:=Y7 (oP (oN (oN (aU w.heap.size w) _) _) hb);clear hb hcan;have hz0:w1.cell? ⟨w.heap.size,0,none⟩=some (.slice Zf Y9.length Zg):=oQ BK0.o 0;have hz1:w1.cell? ⟨w.heap.size,1,none⟩=some (.int .i64 Za):=oQ BK0.o 1;have hy0:w1.cell? ⟨w.heap.size+1,0,none⟩=some (.slice none 0 0):=oQ BK1.o 0;have hy1:w1.cell? ⟨w.heap.size+1,1,none⟩=some (.int .i64 0):=oQ BK1.o 1;have hf0:=oW BK1.o 0;have hf1:=oW BK1.o 1
 by_cases hbad:b=false∨a2<0∨64<a2
 ·have hr:r1=[]∧r2=0∧r3=1:=by
   have h_:=H.o;split at h_
   case isFalse=>simp only[bF,bG] at h_;obtain⟨rfl,rfl,rfl⟩:=h_;exact⟨rfl,rfl,rfl⟩
   case isTrue hb1=>
    split at h_
    case isTrue=>simp only[bF,bG] at h_;obtain⟨rfl,rfl,rfl⟩:=h_;exact⟨rfl,rfl,rfl⟩
    case isFalse h1=>
     split at h_
     case isTrue=>simp only[bF,bG] at h_;obtain⟨rfl,rfl,rfl⟩:=h_;exact⟨rfl,rfl,rfl⟩
     case isFalse h2=>rcases hbad with h3 | h3 | h3<;>simp_all
  obtain⟨rfl,rfl,rfl⟩:=hr;clear H;have key:∀ (d1 d2:Bool),decide (a2<0)=d1→decide (64<a2)=d2→(b=false∨d1=true∨d2=true)→True:=fun _ _ _ _ _=>bE
  rcases Bool.eq_false_or_eq_true b with rfl | rfl
  ·by_cases h1:a2<0
   ·have hd1:decide (a2<0)=true:=aC h1;clear hbad h1 key
    go_wp2_with (fail)
    refine bn (xB rfl _ _ (w.heap.size+1) 149 #[.slice none 0 0,.int .i64 0] (0,0) _ rfl (by (with_reducible repeat (first | refine qd ?_ _ | refine pX ?_ | refine pK ?_ _));refine qF (cs := #[.slice none 0 0,.int .i64 0]) ?_ 1 _ rfl;refine qF (cs := #[.slice none 0 0,.int .i64 0]) ?_ 0 _ rfl;exact BK1.o) Tryz.underlying149 rfl (by kernel_rfl)) rfl ?_;exact⟨_,rfl,Kd.tJ _ _ _ _ _,(HB.o.setCell (p:=⟨w.heap.size+1,0,none⟩) (by simp) _).setCell (p:=⟨w.heap.size+1,1,none⟩) (by simp) _⟩
   ·have hd1:decide (a2<0)=false:=aD h1;have hd2:decide (64<a2)=true:=aC (by rcases hbad with h | h | h;cases h;exact absurd h h1;exact h);clear hbad h1 key
    go_wp2_with (fail)
    refine bn (xB rfl _ _ (w.heap.size+1) 149 #[.slice none 0 0,.int .i64 0] (0,0) _ rfl (by (with_reducible repeat (first | refine qd ?_ _ | refine pX ?_ | refine pK ?_ _));refine qF (cs := #[.slice none 0 0,.int .i64 0]) ?_ 1 _ rfl;refine qF (cs := #[.slice none 0 0,.int .i64 0]) ?_ 0 _ rfl;exact BK1.o) Tryz.underlying149 rfl (by kernel_rfl)) rfl ?_;exact⟨_,rfl,Kd.tJ _ _ _ _ _,(HB.o.setCell (p:=⟨w.heap.size+1,0,none⟩) (by simp) _).setCell (p:=⟨w.heap.size+1,1,none⟩) (by simp) _⟩
  ·clear hbad key
   go_wp2_with (fail)
   refine bn (xB rfl _ _ (w.heap.size+1) 149 #[.slice none 0 0,.int .i64 0] (0,0) _ rfl (by (with_reducible repeat (first | refine qd ?_ _ | refine pX ?_ | refine pK ?_ _));refine qF (cs := #[.slice none 0 0,.int .i64 0]) ?_ 1 _ rfl;refine qF (cs := #[.slice none 0 0,.int .i64 0]) ?_ 0 _ rfl;exact BK1.o) Tryz.underlying149 rfl (by kernel_rfl)) rfl ?_;exact⟨_,rfl,Kd.tJ _ _ _ _ _,(HB.o.setCell (p:=⟨w.heap.size+1,0,none⟩) (by simp) _).setCell (p:=⟨w.heap.size+1,1,none⟩) (by simp) _⟩
 ·obtain⟨rfl,h1,h2⟩:b=true∧¬ a2<0∧¬ 64<a2:=by
   refine⟨?_,fun h=>hbad (.inr (.inl h)),fun h=>hbad (.inr (.inr h))⟩;cases b<;>simp_all
  have h_:=H.o;rw[au rfl,av h1,av h2] at h_;obtain⟨⟨q1,q2⟩,hadd,h_⟩:=Option.bind_eq_some_iff.mp h_;simp only[bF,bG] at h_;obtain⟨rfl,rfl,rfl⟩:=h_;have hd1:decide (a2<0)=false:=aD h1;have hd2:decide (64<a2)=false:=aD h2;have amy:=Y7 hadd;clear hbad h1 h2 H hadd h_ h
  go_upto_region 3 with (fail)
  go_cut [8] (fun v8 wc=>∃ (gy:Nat) (v:Value),v8 = .pointer (some ⟨gy,0,none⟩)∧oM (wc.heap[gy]? = some (.cells #[v,.int .i64 Za] 149 (0,0)))∧oM (Kd.R (Kd.int .u8) 5 wc w.heap.size (fun _=>True) v Y9)∧oM (wc.heap[w.heap.size+1]? = some (.cells #[.slice none 0 0,.int .i64 0] 149 (0,0)))∧oM (Below w.heap.size w wc)∧oM (w.heap.size+1<gy))
  case first=>
   have hs0:=qQ BK0.o;have hs1:=qQ BK1.o;have HCL:oM (rE.f Y9=some Y9):=⟨by unfold rE.f G.rE.f;rw[au (by have:=HL.o;omega)]⟩
   go_region_with (first
    | (go_at_call 142;(with_reducible refine (rE.c Zf Zg Y9 Y9 w1.drew ?c1 HC.o HCL.o).mono ?_);(case c1=>exact Kd.sH (Kd.o9 HR.o HB.o));rintro e w2 ⟨v,rfl,ho,hb⟩;have hz1:w2.cell? ⟨w.heap.size,1,none⟩=some (.int .i64 Za):=oQ (o7 (pX BK0.o) hb) 1;have HO:=Y7 (Kd.qW ho (qh (oV HB.o)));have HB2:=Y7 (oP (oV HB.o) hb);have BK2:=Y7 (o7 (pX BK1.o) hb);have hs3:=dA hs0 hb.size;have hs4:=dA hs1 hb.size;have hs5:w.heap.size<w2.heap.size:=hs3;obtain⟨A2,c2,e2⟩:=Kd.pO HO.o;subst e2;clear ho hb)
    | (go_at_call 142;(with_reducible refine (rE.c Zf Zg Y9 Y9 (w1.alloc (.cells #[.slice none 0 0,.int .i64 0] 149)).drew ?c1 HC.o HCL.o).mono ?_);(case c1=>exact Kd.sH (Kd.rP (Kd.o9 HR.o HB.o) _));rintro e w2 ⟨v,rfl,ho,hb⟩;have hz1:w2.cell? ⟨w.heap.size,1,none⟩=some (.int .i64 Za):=oQ (o7 (pX (pK BK0.o _)) hb) 1;have HO:=Y7 (Kd.qW ho (qh (oV (oN HB.o _))));have HB2:=Y7 (oP (oV (oN HB.o _)) hb);have BK2:=Y7 (o7 (pX (pK BK1.o _)) hb);have BKY:=Y7 (o7 (pX (qx w1 (.cells #[.slice none 0 0,.int .i64 0] 149))) hb);have hy2:w2.cell? ⟨w1.heap.size,0,none⟩=some (.slice none 0 0):=oQ BKY.o 0;have hy3:w2.cell? ⟨w1.heap.size,1,none⟩=some (.int .i64 0):=oQ BKY.o 1;have hy4:w2.frozen? ⟨w1.heap.size,0,none⟩=false:=oW BKY.o 0;have hy5:w2.frozen? ⟨w1.heap.size,1,none⟩=false:=oW BKY.o 1;obtain⟨A2,c2,e2⟩:=Kd.pO HO.o;subst e2;clear ho hb))
   all_goals
    go_wp2_with fail
    go_meet
    case rel=>first
     | exact⟨w2.heap.size,.slice A2 Y9.length c2,rfl,⟨qx w2 _⟩,⟨Kd.sJ HO.o _⟩,⟨pK BK2.o _⟩,⟨oN HB2.o _⟩,⟨hs4⟩⟩
     | exact⟨w1.heap.size,.slice A2 Y9.length c2,rfl,⟨qF (cs := #[.slice A2 Y9.length c2,.int .i64 0]) (qF (cs := #[.slice none 0 0,.int .i64 0]) BKY.o 0 _ rfl) 1 _ rfl⟩,⟨Kd.qR (Kd.sS (p:=⟨w1.heap.size,1,none⟩) (Kd.sS (p:=⟨w1.heap.size,0,none⟩) (Kd.yL HO.o BKY.o (by decide)) (fun _ hk=>hk.2) _) (fun _ hk=>hk.2) _) (fun _ _=>bE)⟩,⟨vH (p:=⟨w1.heap.size,1,none⟩) (vH (p:=⟨w1.heap.size,0,none⟩) BK2.o (iF hs1) _) (iF hs1) _⟩,⟨(HB2.o.setCell (p:=⟨w1.heap.size,0,none⟩) (qh HB.o) _).setCell (p:=⟨w1.heap.size,1,none⟩) (qh HB.o) _⟩,⟨hs1⟩⟩
  case rest=>
   clear BK0 BK1 hz0 hz1 hy0 hy1 hf0 hf1 HB;obtain⟨gy,v,rfl,BKY,HO,BK1,HB,HGY⟩:=hcut
   go_wp2_with (fail)
   refine (sj.c w.heap.size gy w v Y9 Za a1 a2 q1 q2 wc HO.o BKY.o (by have:=HGY.o;omega) HB.o amy.o).mono ?_;rintro e w3 ⟨v3,rfl,hg3,ho3,hb3,hk3⟩;have aj4:=Y7 hg3;have HO3:=Y7 ho3;have HB3:=Y7 hb3;have BK3:=Y7 (hk3 _ _ _ (iF HGY.o) (by decide) BK1.o);clear hg3 ho3 hb3 hk3 BKY HO HB BK1;have hne:=iF HGY.o;have hne':=jy hne;obtain⟨A3,c3,e3⟩:=Kd.pO HO3.o;subst e3;have hz0:w3.cell? ⟨gy,0,none⟩=some (.slice A3 q1.length c3):=oQ aj4.o 0;have hz1:w3.cell? ⟨gy,1,none⟩=some (.int .i64 q2):=oQ aj4.o 1;have hy0:w3.cell? ⟨w.heap.size+1,0,none⟩=some (.slice none 0 0):=oQ BK3.o 0;have hy1:w3.cell? ⟨w.heap.size+1,1,none⟩=some (.int .i64 0):=oQ BK3.o 1;have hf0:=oW BK3.o 0;have hf1:=oW BK3.o 1
   go_wp2_with (fail)
   refine bn (xB rfl _ _ (w.heap.size+1) 149 #[.slice A3 q1.length c3,.int .i64 q2] (0,0) _ rfl (by (with_reducible repeat (first | refine qd ?_ _ | refine pX ?_ | refine pK ?_ _));refine qF (cs := #[.slice A3 q1.length c3,.int .i64 0]) ?_ 1 _ rfl;refine qF (cs := #[.slice none 0 0,.int .i64 0]) ?_ 0 _ rfl;exact BK3.o) Tryz.underlying149 rfl (by kernel_rfl)) rfl ?_;exact⟨_,rfl,Kd.qR (Kd.sS (p:=⟨w.heap.size+1,1,none⟩) (Kd.sS (p:=⟨w.heap.size+1,0,none⟩) (Kd.yL HO3.o BK3.o (by decide)) (fun _ hk=>hk.2) _) (fun _ hk=>hk.2) _) (fun _ _=>bE),(HB3.o.setCell (p:=⟨w.heap.size+1,0,none⟩) (by simp) _).setCell (p:=⟨w.heap.size+1,1,none⟩) (by simp) _⟩
end Go.Proofs.Y.PA

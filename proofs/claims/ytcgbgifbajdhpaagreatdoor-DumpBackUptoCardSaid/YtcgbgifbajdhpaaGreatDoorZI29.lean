/- Of the law rZIQDumpBack. -/
import Derived.Test.YtcgbgifbajdhpaaGreatDoorZI21
import Derived.Test.YtcgbgifbajdhpaaGreatDoorZI14
import Derived.Test.YtcgbgifbajdhpaaGreatDoorZI8
set_option linter.unusedVariables false
set_option linter.unusedSimpArgs false
set_option maxHeartbeats 2000000
set_option maxRecDepth 100000
namespace Go
abbrev cB:=@Go.bodyPost_ret
abbrev iO:=@Nat.ne_of_lt
end Go
namespace Go.Proofs.Y.PA
open Go.RowKit Go.Proofs.Y.G Go.Proofs.YW.o7 Go.Proofs.YW.pJ Go.Proofs.YW.pO
def yT.f (l:List Int)(a0 a1 a2:Int):Option (List Int × Int × Int):=
 if l.length≤900000000 then (qX.f l a0).bind fun b=>if b=true then (if a2<0 then some ([],0,1) else if 64<a2 then some ([],0,1) else (rP.f l a0 a1 a2).bind fun r=>some (r.1,r.2,0)) else some ([],0,1)
 else none
theorem yT.c (YB:Option Addr)(YC:Nat)(Yv:List Int)(Yw:Int)(a1:Int)(a2:Int)(r1:List Int)(r2:Int)(r3:Int)(w:World)(Zm:Kd.C (Kd.int .u8) w YB Yv.length Yv)(Zn:Yv.length≤YC)(h:yT.f Yv Yw a1 a2=some (r1,r2,r3)) :
 Calls Tryz.prog 123 #[.agg #[.slice YB Yv.length YC,.int .i64 Yw],.int .u64 a1,.int .i64 a2] w fun e w'=>∃ v0_:Value,e = .returned (.tuple #[.agg #[v0_,.int .i64 r2],.int .i64 r3])∧Kd.R (Kd.int .u8) 5 w' w.heap.size (fun _=>True) v0_ r1∧Below w.heap.size w w':=by
 have ajk:=Tryz.underlying149;unfold yT.f at h;split at h
 case isFalse=>cases h
 case isTrue hlen=>
 obtain⟨b,hcan,h⟩:=Option.bind_eq_some_iff.mp h;have HR:=Yu Zm;have HC:=Yu Zn;have HL:=Yu hlen;have H:=Yu h;clear Zm Zn hlen h
 go_enter Tryz.func123,Tryz.ntmps123
 go_wp2_with (fail)
 refine (qX.c YB YC Yv Yw b _ ?c1 HC.o hcan).mono ?_
 case c1=>exact Kd.qN (Kd.qN HR.o _) _
 rintro e w1 ⟨rfl,hb⟩;have BK0:=Yu (pG (g:=w.heap.size) (o := .cells #[.slice YB Yv.length YC,.int .i64 Yw] 149 (0,0)) (pU (qG w _) _) hb);have BK1:=Yu (pG (g:=w.heap.size+1) (o := .cells #[.slice none 0 0,.int .i64 0] 149 (0,0)) (by have:=qG (w.alloc (.cells #[.slice YB Yv.length YC,.int .i64 Yw] 149 (0,0))) (.cells #[.slice none 0 0,.int .i64 0] 149 (0,0));rw[show (w.alloc (.cells #[.slice YB Yv.length YC,.int .i64 Yw] 149 (0,0))).heap.size=w.heap.size+1 by simp] at this;exact this) hb);have HB:=Yu (o9 (o8 (o8 (bq w.heap.size w) _) _) hb);clear hb hcan;have hz0:w1.cell? ⟨w.heap.size,0,none⟩=some (.slice YB Yv.length YC):=pq BK0.o 0;have hz1:w1.cell? ⟨w.heap.size,1,none⟩=some (.int .i64 Yw):=pq BK0.o 1;have hy0:w1.cell? ⟨w.heap.size+1,0,none⟩=some (.slice none 0 0):=pq BK1.o 0;have hy1:w1.cell? ⟨w.heap.size+1,1,none⟩=some (.int .i64 0):=pq BK1.o 1;have hf0:=pE BK1.o 0;have hf1:=pE BK1.o 1
 by_cases hbad:b=false∨a2<0∨64<a2
 ·have hr:r1=[]∧r2=0∧r3=1:=by
   have h_:=H.o;split at h_
   case isFalse=>simp only[cO,dB] at h_;obtain⟨rfl,rfl,rfl⟩:=h_;exact⟨rfl,rfl,rfl⟩
   case isTrue hb1=>
    split at h_
    case isTrue=>simp only[cO,dB] at h_;obtain⟨rfl,rfl,rfl⟩:=h_;exact⟨rfl,rfl,rfl⟩
    case isFalse h1=>
     split at h_
     case isTrue=>simp only[cO,dB] at h_;obtain⟨rfl,rfl,rfl⟩:=h_;exact⟨rfl,rfl,rfl⟩
     case isFalse h2=>rcases hbad with h3 | h3 | h3<;>simp_all
  obtain⟨rfl,rfl,rfl⟩:=hr;clear H;have key:∀ (d1 d2:Bool),decide (a2<0)=d1→decide (64<a2)=d2→(b=false∨d1=true∨d2=true)→True:=fun _ _ _ _ _=>dD
  rcases Bool.eq_false_or_eq_true b with rfl | rfl
  ·by_cases h1:a2<0
   ·have hd1:decide (a2<0)=true:=aM h1;clear hbad h1 key
    go_wp2_with (fail)
    refine cB (vV rfl _ _ (w.heap.size+1) 149 #[.slice none 0 0,.int .i64 0] (0,0) _ rfl (by (with_reducible repeat (first | refine qh ?_ _ | refine qg ?_ | refine pU ?_ _));refine qH (cs := #[.slice none 0 0,.int .i64 0]) ?_ 1 _ rfl;refine qH (cs := #[.slice none 0 0,.int .i64 0]) ?_ 0 _ rfl;exact BK1.o) Tryz.underlying149 rfl (by kernel_rfl)) rfl ?_;exact⟨_,rfl,Kd.ug _ _ _ _ _,(HB.o.setCell (p:=⟨w.heap.size+1,0,none⟩) (by simp) _).setCell (p:=⟨w.heap.size+1,1,none⟩) (by simp) _⟩
   ·have hd1:decide (a2<0)=false:=aN h1;have hd2:decide (64<a2)=true:=aM (by rcases hbad with h | h | h;cases h;exact absurd h h1;exact h);clear hbad h1 key
    go_wp2_with (fail)
    refine cB (vV rfl _ _ (w.heap.size+1) 149 #[.slice none 0 0,.int .i64 0] (0,0) _ rfl (by (with_reducible repeat (first | refine qh ?_ _ | refine qg ?_ | refine pU ?_ _));refine qH (cs := #[.slice none 0 0,.int .i64 0]) ?_ 1 _ rfl;refine qH (cs := #[.slice none 0 0,.int .i64 0]) ?_ 0 _ rfl;exact BK1.o) Tryz.underlying149 rfl (by kernel_rfl)) rfl ?_;exact⟨_,rfl,Kd.ug _ _ _ _ _,(HB.o.setCell (p:=⟨w.heap.size+1,0,none⟩) (by simp) _).setCell (p:=⟨w.heap.size+1,1,none⟩) (by simp) _⟩
  ·clear hbad key
   go_wp2_with (fail)
   refine cB (vV rfl _ _ (w.heap.size+1) 149 #[.slice none 0 0,.int .i64 0] (0,0) _ rfl (by (with_reducible repeat (first | refine qh ?_ _ | refine qg ?_ | refine pU ?_ _));refine qH (cs := #[.slice none 0 0,.int .i64 0]) ?_ 1 _ rfl;refine qH (cs := #[.slice none 0 0,.int .i64 0]) ?_ 0 _ rfl;exact BK1.o) Tryz.underlying149 rfl (by kernel_rfl)) rfl ?_;exact⟨_,rfl,Kd.ug _ _ _ _ _,(HB.o.setCell (p:=⟨w.heap.size+1,0,none⟩) (by simp) _).setCell (p:=⟨w.heap.size+1,1,none⟩) (by simp) _⟩
 ·obtain⟨rfl,h1,h2⟩:b=true∧¬ a2<0∧¬ 64<a2:=by
   refine⟨?_,fun h=>hbad (.inr (.inl h)),fun h=>hbad (.inr (.inr h))⟩;cases b<;>simp_all
  have h_:=H.o;rw[ak rfl,aK h1,aK h2] at h_;obtain⟨⟨q1,q2⟩,hadd,h_⟩:=Option.bind_eq_some_iff.mp h_;simp only[cO,dB] at h_;obtain⟨rfl,rfl,rfl⟩:=h_;have hd1:decide (a2<0)=false:=aN h1;have hd2:decide (64<a2)=false:=aN h2;have ajm:=Yu hadd;clear hbad h1 h2 H hadd h_ h
  go_upto_region 3 with (fail)
  go_cut [8] (fun v8 wc=>∃ (gy:Nat) (v:Value),v8 = .pointer (some ⟨gy,0,none⟩)∧oZ (wc.heap[gy]? = some (.cells #[v,.int .i64 Yw] 149 (0,0)))∧oZ (Kd.R (Kd.int .u8) 5 wc w.heap.size (fun _=>True) v Yv)∧oZ (wc.heap[w.heap.size+1]? = some (.cells #[.slice none 0 0,.int .i64 0] 149 (0,0)))∧oZ (Below w.heap.size w wc)∧oZ (w.heap.size+1<gy))
  case first=>
   have hs0:=rE BK0.o;have hs1:=rE BK1.o;have HCL:oZ (rz.f Yv=some Yv):=⟨by unfold rz.f G.rz.f;rw[ak (by have:=HL.o;omega)]⟩
   go_region_with (first
    | (go_at_call 142;(with_reducible refine (rz.c YB YC Yv Yv w1.drew ?c1 HC.o HCL.o).mono ?_);(case c1=>exact Kd.rD (Kd.pI HR.o HB.o));rintro e w2 ⟨v,rfl,ho,hb⟩;have hz1:w2.cell? ⟨w.heap.size,1,none⟩=some (.int .i64 Yw):=pq (pG (qg BK0.o) hb) 1;have HO:=Yu (Kd.sj ho (pX (pF HB.o)));have HB2:=Yu (o9 (pF HB.o) hb);have BK2:=Yu (pG (qg BK1.o) hb);have hs3:=d9 hs0 hb.size;have hs4:=d9 hs1 hb.size;have hs5:w.heap.size<w2.heap.size:=hs3;obtain⟨A2,c2,e2⟩:=Kd.qo HO.o;subst e2;clear ho hb)
    | (go_at_call 142;(with_reducible refine (rz.c YB YC Yv Yv (w1.alloc (.cells #[.slice none 0 0,.int .i64 0] 149)).drew ?c1 HC.o HCL.o).mono ?_);(case c1=>exact Kd.rD (Kd.qN (Kd.pI HR.o HB.o) _));rintro e w2 ⟨v,rfl,ho,hb⟩;have hz1:w2.cell? ⟨w.heap.size,1,none⟩=some (.int .i64 Yw):=pq (pG (qg (pU BK0.o _)) hb) 1;have HO:=Yu (Kd.sj ho (pX (pF (o8 HB.o _))));have HB2:=Yu (o9 (pF (o8 HB.o _)) hb);have BK2:=Yu (pG (qg (pU BK1.o _)) hb);have BKY:=Yu (pG (qg (qG w1 (.cells #[.slice none 0 0,.int .i64 0] 149))) hb);have hy2:w2.cell? ⟨w1.heap.size,0,none⟩=some (.slice none 0 0):=pq BKY.o 0;have hy3:w2.cell? ⟨w1.heap.size,1,none⟩=some (.int .i64 0):=pq BKY.o 1;have hy4:w2.frozen? ⟨w1.heap.size,0,none⟩=false:=pE BKY.o 0;have hy5:w2.frozen? ⟨w1.heap.size,1,none⟩=false:=pE BKY.o 1;obtain⟨A2,c2,e2⟩:=Kd.qo HO.o;subst e2;clear ho hb))
   all_goals
    go_wp2_with fail
    go_meet
    case rel=>first
     | exact⟨w2.heap.size,.slice A2 Yv.length c2,rfl,⟨qG w2 _⟩,⟨Kd.vO HO.o _⟩,⟨pU BK2.o _⟩,⟨o8 HB2.o _⟩,⟨hs4⟩⟩
     | exact⟨w1.heap.size,.slice A2 Yv.length c2,rfl,⟨qH (cs := #[.slice A2 Yv.length c2,.int .i64 0]) (qH (cs := #[.slice none 0 0,.int .i64 0]) BKY.o 0 _ rfl) 1 _ rfl⟩,⟨Kd.sD (Kd.uG (p:=⟨w1.heap.size,1,none⟩) (Kd.uG (p:=⟨w1.heap.size,0,none⟩) (Kd.ze HO.o BKY.o (by decide)) (fun _ hk=>hk.2) _) (fun _ hk=>hk.2) _) (fun _ _=>dD)⟩,⟨uU (p:=⟨w1.heap.size,1,none⟩) (uU (p:=⟨w1.heap.size,0,none⟩) BK2.o (iO hs1) _) (iO hs1) _⟩,⟨(HB2.o.setCell (p:=⟨w1.heap.size,0,none⟩) (pX HB.o) _).setCell (p:=⟨w1.heap.size,1,none⟩) (pX HB.o) _⟩,⟨hs1⟩⟩
  case rest=>
   clear BK0 BK1 hz0 hz1 hy0 hy1 hf0 hf1 HB;obtain⟨gy,v,rfl,BKY,HO,BK1,HB,HGY⟩:=hcut
   go_wp2_with (fail)
   refine (rP.c w.heap.size gy w v Yv Yw a1 a2 q1 q2 wc HO.o BKY.o (by have:=HGY.o;omega) HB.o ajm.o).mono ?_;rintro e w3 ⟨v3,rfl,hg3,ho3,hb3,hk3⟩;have ahP:=Yu hg3;have HO3:=Yu ho3;have HB3:=Yu hb3;have BK3:=Yu (hk3 _ _ _ (iO HGY.o) (by decide) BK1.o);clear hg3 ho3 hb3 hk3 BKY HO HB BK1;have hne:=iO HGY.o;have hne':=jJ hne;obtain⟨A3,c3,e3⟩:=Kd.qo HO3.o;subst e3;have hz0:w3.cell? ⟨gy,0,none⟩=some (.slice A3 q1.length c3):=pq ahP.o 0;have hz1:w3.cell? ⟨gy,1,none⟩=some (.int .i64 q2):=pq ahP.o 1;have hy0:w3.cell? ⟨w.heap.size+1,0,none⟩=some (.slice none 0 0):=pq BK3.o 0;have hy1:w3.cell? ⟨w.heap.size+1,1,none⟩=some (.int .i64 0):=pq BK3.o 1;have hf0:=pE BK3.o 0;have hf1:=pE BK3.o 1
   go_wp2_with (fail)
   refine cB (vV rfl _ _ (w.heap.size+1) 149 #[.slice A3 q1.length c3,.int .i64 q2] (0,0) _ rfl (by (with_reducible repeat (first | refine qh ?_ _ | refine qg ?_ | refine pU ?_ _));refine qH (cs := #[.slice A3 q1.length c3,.int .i64 0]) ?_ 1 _ rfl;refine qH (cs := #[.slice none 0 0,.int .i64 0]) ?_ 0 _ rfl;exact BK3.o) Tryz.underlying149 rfl (by kernel_rfl)) rfl ?_;exact⟨_,rfl,Kd.sD (Kd.uG (p:=⟨w.heap.size+1,1,none⟩) (Kd.uG (p:=⟨w.heap.size+1,0,none⟩) (Kd.ze HO3.o BK3.o (by decide)) (fun _ hk=>hk.2) _) (fun _ hk=>hk.2) _) (fun _ _=>dD),(HB3.o.setCell (p:=⟨w.heap.size+1,0,none⟩) (by simp) _).setCell (p:=⟨w.heap.size+1,1,none⟩) (by simp) _⟩
end Go.Proofs.Y.PA

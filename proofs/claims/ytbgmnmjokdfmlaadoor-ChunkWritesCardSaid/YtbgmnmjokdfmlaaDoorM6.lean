import Derived.Test.YtbgmnmjokdfmlaaDoorM1
import Derived.Test.YtbgmnmjokdfmlaaDoorM4
import Derived.Deep.RegionHeld3
import Derived.Test.YtbgmnmjokdfmlaaDoorM3
import Derived.Test.YtbgmnmjokdfmlaaDoorM5
import Derived.Test.YtbgmnmjokdfmlaaDoorWSized
import Derived.SizedLaws
set_option linter.unusedVariables false
set_option linter.unusedSimpArgs false
-- written by wip/gprint.py of this session (it runs the print of the guide's kit over contracts of the session)
namespace Go.Proofs.YtbgmnmjokdfmlaaDoor.PA
open Go.RowKit Go.Proofs.YtbgmnmjokdfmlaaDoorW.PrintWords Go.Proofs.YtbgmnmjokdfmlaaDoorW.PrintLast Go.Proofs.YtbgmnmjokdfmlaaDoorW.PrintMore
attribute [local go_sem] max2_int min2_int max_two min_two max_three min_three max_four min_four   -- for this text's walks alone

abbrev q1 := @blk_drewN
abbrev q2 := @blk_drew
abbrev q3 := @blk_alloc
abbrev q4 := @below_alloc
abbrev q5 := @pw_below_drewN
abbrev q6 := @below_drew1
abbrev q7 := @below_set
abbrev qb := @List.setIfInBounds_toArray
abbrev qc := @List.set_cons_zero
abbrev qd := @List.set_cons_succ
theorem cz0 {w : World} {g : Nat} {t : TypeId} {a b : Value} (h : w.heap[g]? = some (.cells #[a, b] t (0, 0))) : w.cell? ⟨g, 0, none⟩ = some a := (blk_cell h 0).trans rfl
theorem cz1 {w : World} {g : Nat} {t : TypeId} {a b : Value} (h : w.heap[g]? = some (.cells #[a, b] t (0, 0))) : w.cell? ⟨g, 1, none⟩ = some b := (blk_cell h 1).trans rfl
/-! ### dryrotplain_Few: function 13 -/
def dryrotplain_Few.l0 : Nat → Int → Int → List (S60) → List (S60) → Int → Int → Option ((List (S60)))
 | 0, _, _, _, _, _, _ => none
 | k + 1, x1, x2, x7, x10, x11, x12 => if x12 < x11 then (if 0 ≤ x12 then (if x12 < (x10.length : Int) then (if x12 < x1 then (if (((rd_T60 x10 x12).f0).length : Int) ≤ 10 then (if 0 ≤ (mn (((rd_T60 x10 x12).f1).length : Int) x2) then (if (mn (((rd_T60 x10 x12).f1).length : Int) x2) ≤ (((rd_T60 x10 x12).f1).length : Int) then (if x7.length < 2932031007402 then (dryrotplain_Few.l0 k x1 x2 (x7 ++ [(⟨(rd_T60 x10 x12).f0, (((rd_T60 x10 x12).f1).take ((mn (((rd_T60 x10 x12).f1).length : Int) x2) : Int).toNat)⟩ : S60)]) x10 x11 (wrap64 (x12 + 1))) else (none)) else (none)) else (none)) else (dryrotplain_Few.l0 k x1 x2 x7 x10 x11 (wrap64 (x12 + 1)))) else (dryrotplain_Few.l0 k x1 x2 x7 x10 x11 (wrap64 (x12 + 1)))) else (none)) else (none)) else (some x7)
def dryrotplain_Few.f (k : Nat) (l0 : List (S60)) (a1 : Int) (a2 : Int) : Option ((List (S60))) := dryrotplain_Few.l0 k a1 a2 ([] : List (S60)) l0 (l0.length : Int) 0
def dryrotplain_Few.T6 : Bool × List (List Nat × List Nat) := (true, [([], []), ([], []), ([1], [1]), ([], []), ([3], [3]), ([], []), ([5], [5]), ([6], [6]), ([], []), ([7, 8], [7, 8]), ([4, 9], [4, 9]), ([2, 10], [2, 10]), ([11], [11]), ([0, 12], [0, 12]), ([13, 13, 0, 1, 2, 3, 4, 5, 6, 7, 8, 9, 10, 11, 12, 13], [0, 13])])
def dryrotplain_Few.B6 : List Nat := [0, 0, 2, 0, 8, 0, 32, 96, 0, 480, 1016, 2046, 4094, 8191, 16383]
theorem dryrotplain_Few.tab6 : rtab .any (opsOf Tryd.f13 6) = dryrotplain_Few.T6 := by kernel_rfl
theorem dryrotplain_Few.bits6 : waitsOk dryrotplain_Few.T6.2 dryrotplain_Few.B6 = true := by kernel_rfl
set_option maxHeartbeats 8000000 in
set_option maxRecDepth 100000 in
theorem dryrotplain_Few.calls (k : Nat) (P0_ : Nat → Prop) (A0 : Option Addr) (c0 : Nat) (l0 : List (S60)) (a1 : Int) (a2 : Int) (r : List (S60)) (w : World) (hs0 : Kd.V k60 60 w w.heap.size (fun k_ => P0_ k_) (.slice A0 l0.length c0) l0) (h : dryrotplain_Few.f k l0 a1 a2 = some r) :
  Calls Tryd.prog 13 #[.slice A0 l0.length c0, .int .i64 a1, .int .i64 a2] w fun e w' => ∃ v0_ : Value, e = .returned (v0_) ∧ Kd.N k60 60 w' w.heap.size (fun k_ => (P0_ k_ ∨ w.heap.size ≤ k_)) v0_ r ∧ Below w.heap.size w w' := by
 have hu60 := Tryd.underlying60
 have HO0 := Aside0.mk (show Kd.V k60 60 w w.heap.size (fun k_ => (P0_ k_ ∨ w.heap.size ≤ k_)) (.slice A0 l0.length c0) l0 from Kd.V_mono hs0 (fun k_ hk => .inl hk))
 have HB := Aside0.mk (Below.refl w.heap.size w)
 have H : (dryrotplain_Few.l0 k a1 a2 ([] : List (S60)) l0 (l0.length : Int) 0) = some r := h
 clear h
 have H' := Aside0.mk H
 clear H
 go_enter Tryd.func13, Tryd.ntmps13
 go_wp2
 go_loopg [7, 12] k (fun kq v7 v12 w' => ∃ (x7_1 : List (S60)) (x12_1 : Int), v12 = .int .i64 x12_1 ∧ Aside0 (dryrotplain_Few.l0 kq a1 a2 x7_1 l0 (l0.length : Int) x12_1 = some r) ∧ Aside0 (kq ≤ k) ∧ Aside0 (Kd.N k60 60 w' w.heap.size (fun k_ => (P0_ k_ ∨ w.heap.size ≤ k_)) v7 x7_1) ∧ Aside0 (Kd.V k60 60 w' w.heap.size (fun k_ => (P0_ k_ ∨ w.heap.size ≤ k_) ∧ some k_ ≠ (v7 : Value).ownBlock) (.slice A0 l0.length c0) l0) ∧ Aside0 (Below w.heap.size w w'))
 case atStart => exact ⟨(([] : List (S60))), (0), (by first | rfl | (simp; done) | (simp [*]; done)), H', ⟨Nat.le_refl _⟩, ⟨by first | exact Kd.S_nil _ _ _ _ _ | exact Kd.N_nil _ _ _ _ _ | exact Kd.V_nil _ _ _ _ _ | exact Kd.Q_nil _ _ _ _ _ | exact Kd.R_nil _ _ _ _ _⟩, ⟨by (with_reducible repeat (first | apply Kd.V_alloc | apply Kd.V_drewN | apply Kd.V_drew)); exact Kd.V_mono HO0.out (fun _ hk => ⟨hk, (by simp [Value.ownBlock])⟩)⟩, ⟨by repeat (first | (with_reducible first | exact HB.out | apply q4 | apply q5 | apply q6) | exact HB.out)⟩⟩
 case round =>
  clear H'
  try clear c1
  try clear p2
  obtain ⟨x7_1, x12_1, rfl, HA, HK1, HO_7, HO_10, HB⟩ := hrel
  cases gk with
  | zero => exact absurd HA.out (by simp [dryrotplain_Few.l0])
  | succ k1 =>
   have H := HA.out
   clear HA
   simp only [dryrotplain_Few.l0] at H
   by_cases c4 : x12_1 < (l0.length : Int)
   ·
    rw [if_pos c4] at H
    have c4b0 : decide (x12_1 < (l0.length : Int)) = true := decide_eq_true c4
    clear c4
    by_cases c5 : 0 ≤ x12_1
    ·
     rw [if_pos c5] at H
     have c5b0 : decide (0 ≤ x12_1) = true := decide_eq_true c5
     clear c5
     by_cases c6 : x12_1 < (l0.length : Int)
     ·
      rw [if_pos c6] at H
      have c6b0 : decide (x12_1 < (l0.length : Int)) = true := decide_eq_true c6
      clear c6
      by_cases c7 : x12_1 < a1
      ·
       rw [if_pos c7] at H
       have c7b0 : decide (x12_1 < a1) = true := decide_eq_true c7
       clear c7
       by_cases c8 : (((rd_T60 l0 x12_1).f0).length : Int) ≤ 10
       ·
        rw [if_pos c8] at H
        have c8b0 : decide ((((rd_T60 l0 x12_1).f0).length : Int) ≤ 10) = true := decide_eq_true c8
        have c8b1 : decide (((rd_T60 l0 x12_1).f0).length ≤ 10) = true := decide_eq_true (by omega)
        clear c8
        obtain ⟨ji9, hji9⟩ : ∃ j_ : Int, (mn (((rd_T60 l0 x12_1).f1).length : Int) a2) = j_ := ⟨_, rfl⟩
        replace H : (if 0 ≤ (ji9) then (if (ji9) ≤ (((rd_T60 l0 x12_1).f1).length : Int) then (if x7_1.length < 2932031007402 then (dryrotplain_Few.l0 k1 a1 a2 (x7_1 ++ [(⟨(rd_T60 l0 x12_1).f0, (((rd_T60 l0 x12_1).f1).take ((ji9) : Int).toNat)⟩ : S60)]) l0 (l0.length : Int) (wrap64 (x12_1 + 1))) else (none)) else (none)) else (none)) = some r := by first | (rw [hji9] at H; exact H) | (simp only [hji9] at H ⊢; exact H)
        have hji9_ : (if a2 < (((rd_T60 l0 x12_1).f1).length : Int) then a2 else (((rd_T60 l0 x12_1).f1).length : Int)) = ji9 := hji9
        by_cases c10 : 0 ≤ (ji9)
        ·
         rw [if_pos c10] at H
         have c10b0 := eq_true c10
         have c10b1 : decide (0 ≤ (ji9)) = true := decide_eq_true c10
         clear c10
         by_cases c11 : (ji9) ≤ (((rd_T60 l0 x12_1).f1).length : Int)
         ·
          rw [if_pos c11] at H
          have c11b0 := eq_true c11
          have c11b1 : decide ((ji9) ≤ (((rd_T60 l0 x12_1).f1).length : Int)) = true := decide_eq_true c11
          clear c11
          obtain ⟨y184, hy184⟩ : ∃ y_ : List (S54), y_ = (((rd_T60 l0 x12_1).f1).take ((ji9) : Int).toNat) := ⟨_, rfl⟩
          replace H : (if x7_1.length < 2932031007402 then (dryrotplain_Few.l0 k1 a1 a2 (x7_1 ++ [(⟨(rd_T60 l0 x12_1).f0, y184⟩ : S60)]) l0 (l0.length : Int) (wrap64 (x12_1 + 1))) else (none)) = some r := by first | (rw [hy184]; with_reducible exact H) | (have H2_ := (Option.bind_some _ _).symm.trans H; rw [hy184]; with_reducible exact H2_) | (have H2_ := (Option.bind_some _ _).symm.trans H; with_reducible exact H2_) | with_reducible exact H | (rw [hy184]; exact H) | exact H
          have Ny184 := Aside0.mk hy184
          clear hy184
          by_cases c12 : x7_1.length < 2932031007402
          ·
           rw [if_pos c12] at H
           have LMc12 := Aside0.mk c12
           clear c12
           obtain ⟨y189, hy189⟩ : ∃ y_ : List (S60), y_ = (x7_1 ++ [(⟨(rd_T60 l0 x12_1).f0, y184⟩ : S60)]) := ⟨_, rfl⟩
           replace H : (dryrotplain_Few.l0 k1 a1 a2 y189 l0 (l0.length : Int) (wrap64 (x12_1 + 1))) = some r := by first | (rw [hy189]; with_reducible exact H) | (have H2_ := (Option.bind_some _ _).symm.trans H; rw [hy189]; with_reducible exact H2_) | (have H2_ := (Option.bind_some _ _).symm.trans H; with_reducible exact H2_) | with_reducible exact H | (rw [hy189]; exact H) | exact H
           have Ny189 := Aside0.mk hy189
           clear hy189
           have H' := Aside0.mk H
           clear H
           have p182 : 0 ≤ (x12_1 : Int) := of_decide_eq_true (by first | (with_reducible assumption) | assumption)
           have q182 : x12_1 < (l0.length : Int) := of_decide_eq_true (by first | (with_reducible assumption) | assumption)
           obtain ⟨ad182, A182_0, c182_0, A182_1, c182_1, e182, hx182_0, hx182_1, hl182_0, hi182_0, hl182_1, hi182_1⟩ := at_T60 (Kd.V_reads' HO_10.out).2.2 x12_1 p182 q182
           cases e182
           obtain ⟨ce182, hce182, hMe182, hcc182⟩ := Kd.V_get HO_10.out z60 x12_1 p182 (by first | exact q182 | exact of_decide_eq_true (by first | (with_reducible assumption) | assumption) | (have e_ := (Kd.V_reads' HO_10.out).1; omega))
           obtain ⟨ua182_0, uc182_0, ua182_1, uc182_1, rfl, ul182_0, ge182_0, ul182_1, ge182_1⟩ := k60_openF hMe182
           have hv182_0 := hcc182 0 _ rfl
           rw [Nat.add_zero] at hv182_0
           replace hv182_0 := Option.some.inj (hv182_0.symm.trans hx182_0)
           injection hv182_0 with hva_ hvn_ hvc_
           rw [hva_] at ge182_0
           rw [hvc_] at ul182_0
           have HL182_0 := Aside0.mk (show Kd.V k65 65 _ w.heap.size _ _ ((rd_T60 l0 x12_1).f0) from Kd.V_mk ul182_0 ge182_0)
           clear hva_ hvn_ hvc_ ge182_0 ul182_0
           have hv182_1 := hcc182 1 _ rfl
           rw [add_field _ _ 1 (by omega)] at hv182_1
           replace hv182_1 := Option.some.inj (hv182_1.symm.trans hx182_1)
           injection hv182_1 with hva_ hvn_ hvc_
           rw [hva_] at ge182_1
           rw [hvc_] at ul182_1
           have HL182_1 := Aside0.mk (show Kd.V k54 54 _ w.heap.size _ _ ((rd_T60 l0 x12_1).f1) from Kd.V_mk ul182_1 ge182_1)
           clear hva_ hvn_ hvc_ ge182_1 ul182_1
           clear hcc182 hce182
           have HR182_0 := Aside0.mk hi182_0
           have HC182_0 := Aside0.mk hl182_0
           clear hi182_0 hl182_0
           have HR182_1 := Aside0.mk hi182_1
           have HC182_1 := Aside0.mk hl182_1
           clear hi182_1 hl182_1
           replace p182 := eq_true p182
           replace q182 := eq_true q182
           try go_wp2_with (first | ((with_reducible refine gate_dst (N := 9) rfl ?_); (try (refine gate_guard (by rfl) ?_; dsimp only)); refine box_event ?hg (N := 9) ?hd (cs := #[.slice none 0 0, .slice none 0 0]) (t := 60) ?hr ?_; (case hd => rfl); (case hg => rfl); (case hr => first | (go_simp; done) | (go_simp; rfl)); intro gb183 hg w13 hbox hb; have n0_ := Aside0.mk (Kd.N_below (Kd.N_elderB (by (with_reducible repeat (first | apply Kd.N_alloc | apply Kd.N_drewN | apply Kd.N_drew)); exact HO_7.out) gb183 (Nat.le_of_eq hg.symm)) hb); have n1_ := Aside0.mk (Kd.V_below (Kd.V_elderB (by (with_reducible repeat (first | apply Kd.V_alloc | apply Kd.V_drewN | apply Kd.V_drew)); exact HO_10.out) gb183 (Nat.le_of_eq hg.symm)) hb); have n2_ := Aside0.mk (Kd.V_below (Kd.V_elderB (by (with_reducible repeat (first | apply Kd.V_alloc | apply Kd.V_drewN | apply Kd.V_drew)); exact HL182_0.out) gb183 (Nat.le_of_eq hg.symm)) hb); have n3_ := Aside0.mk (Kd.V_below (Kd.V_elderB (by (with_reducible repeat (first | apply Kd.V_alloc | apply Kd.V_drewN | apply Kd.V_drew)); exact HL182_1.out) gb183 (Nat.le_of_eq hg.symm)) hb); have n4_ := Aside0.mk (Kd.C_below (by repeat (first | (with_reducible exact HR182_0.out) | (with_reducible refine Kd.C_alloc ?_ _) | (with_reducible refine Kd.C_drewN ?_ _) | (with_reducible refine Kd.C_drew ?_) | exact HR182_0.out)) hb); have n5_ := Aside0.mk (Kd.C_below (by repeat (first | (with_reducible exact HR182_1.out) | (with_reducible refine Kd.C_alloc ?_ _) | (with_reducible refine Kd.C_drewN ?_ _) | (with_reducible refine Kd.C_drew ?_) | exact HR182_1.out)) hb); have n6_ := Aside0.mk (below_step (by repeat (first | (with_reducible first | exact HB.out | apply q4 | apply q5 | apply q6) | exact HB.out)) hb); have n7_ := Aside0.mk (hbox); have n8_ := Aside0.mk ((by rw [hg]; exact (below_size (by repeat (first | (with_reducible first | exact HB.out | apply q4 | apply q5 | apply q6) | exact HB.out))) : w.heap.size ≤ gb183)); have n9_ := Aside0.mk ((by rw [hg]; exact (below_size (by repeat (first | (with_reducible first | exact HB.out | apply q4 | apply q5 | apply q6) | exact HB.out))) : w.heap.size ≤ gb183)); clear HO_7; clear HO_10; clear HL182_0; clear HL182_1; clear HR182_0; clear HR182_1; clear HB; have HO_7 := n0_; have HO_10 := n1_; have HL182_0 := n2_; have HL182_1 := n3_; have HR182_0 := n4_; have HR182_1 := n5_; have HB := n6_; have BK183 := n7_; have GW183 := n8_; have GE183 := n9_; clear n0_ n1_ n2_ n3_ n4_ n5_ n6_ n7_ n8_ n9_; clear hb hbox hg; have hcz14_0 := cz0 BK183.out; have hcz14_1 := cz1 BK183.out; have hfz14_0 := blk_frozen BK183.out 0; have hfz14_1 := blk_frozen BK183.out 1))
           have n0_ : Aside0 (Kd.N k60 60 ((w13.setCell ⟨gb183, 0, none⟩ (.slice A182_0 ((rd_T60 l0 x12_1).f0).length c182_0)).setCell ⟨gb183, 1, none⟩ (.slice A182_1 ((rd_T60 l0 x12_1).f1).length c182_1)) w.heap.size (fun k_ => (P0_ k_ ∨ w.heap.size ≤ k_) ∧ k_ ≠ gb183) u7 x7_1) := ⟨by (with_reducible repeat (first | apply Kd.N_alloc | apply Kd.N_drewN | apply Kd.N_drew)); exact Kd.N_mono (Kd.N_far (p := ⟨gb183, 1, none⟩) (Kd.N_far (p := ⟨gb183, 0, none⟩) (Kd.N_mono HO_7.out (fun k_ hk => (⟨hk, hk.2⟩ : _ ∧ k_ ≠ gb183))) (fun _ hk => hk.2) (.slice A182_0 ((rd_T60 l0 x12_1).f0).length c182_0)) (fun _ hk => hk.2) (.slice A182_1 ((rd_T60 l0 x12_1).f1).length c182_1)) (fun _ hk => ⟨hk.1.1, hk.1.2⟩)⟩
           have n1_ : Aside0 (Kd.V k60 60 ((w13.setCell ⟨gb183, 0, none⟩ (.slice A182_0 ((rd_T60 l0 x12_1).f0).length c182_0)).setCell ⟨gb183, 1, none⟩ (.slice A182_1 ((rd_T60 l0 x12_1).f1).length c182_1)) w.heap.size (fun k_ => (P0_ k_ ∨ w.heap.size ≤ k_) ∧ some k_ ≠ (u7 : Value).ownBlock ∧ k_ ≠ gb183) (.slice (some ad182) l0.length c0) l0) := ⟨by (with_reducible repeat (first | apply Kd.V_alloc | apply Kd.V_drewN | apply Kd.V_drew)); exact Kd.V_mono (Kd.V_far (p := ⟨gb183, 1, none⟩) (Kd.V_far (p := ⟨gb183, 0, none⟩) (Kd.V_mono HO_10.out (fun k_ hk => (⟨hk, hk.2⟩ : _ ∧ k_ ≠ gb183))) (fun _ hk => hk.2) (.slice A182_0 ((rd_T60 l0 x12_1).f0).length c182_0)) (fun _ hk => hk.2) (.slice A182_1 ((rd_T60 l0 x12_1).f1).length c182_1)) (fun _ hk => ⟨hk.1.1.1, ⟨hk.1.1.2, hk.1.2⟩⟩)⟩
           have n2_ : Aside0 (Kd.V k65 65 ((w13.setCell ⟨gb183, 0, none⟩ (.slice A182_0 ((rd_T60 l0 x12_1).f0).length c182_0)).setCell ⟨gb183, 1, none⟩ (.slice A182_1 ((rd_T60 l0 x12_1).f1).length c182_1)) w.heap.size (fun k_ => (P0_ k_ ∨ w.heap.size ≤ k_) ∧ some k_ ≠ (u7 : Value).ownBlock ∧ k_ ≠ gb183) (.slice A182_0 ((rd_T60 l0 x12_1).f0).length c182_0) ((rd_T60 l0 x12_1).f0)) := ⟨by (with_reducible repeat (first | apply Kd.V_alloc | apply Kd.V_drewN | apply Kd.V_drew)); exact Kd.V_mono (Kd.V_far (p := ⟨gb183, 1, none⟩) (Kd.V_far (p := ⟨gb183, 0, none⟩) (Kd.V_mono HL182_0.out (fun k_ hk => (⟨hk, hk.2⟩ : _ ∧ k_ ≠ gb183))) (fun _ hk => hk.2) (.slice A182_0 ((rd_T60 l0 x12_1).f0).length c182_0)) (fun _ hk => hk.2) (.slice A182_1 ((rd_T60 l0 x12_1).f1).length c182_1)) (fun _ hk => ⟨hk.1.1.1, ⟨hk.1.1.2, hk.1.2⟩⟩)⟩
           have n3_ : Aside0 (Kd.V k54 54 ((w13.setCell ⟨gb183, 0, none⟩ (.slice A182_0 ((rd_T60 l0 x12_1).f0).length c182_0)).setCell ⟨gb183, 1, none⟩ (.slice A182_1 ((rd_T60 l0 x12_1).f1).length c182_1)) w.heap.size (fun k_ => (P0_ k_ ∨ w.heap.size ≤ k_) ∧ some k_ ≠ (u7 : Value).ownBlock ∧ k_ ≠ gb183) (.slice A182_1 ((rd_T60 l0 x12_1).f1).length c182_1) ((rd_T60 l0 x12_1).f1)) := ⟨by (with_reducible repeat (first | apply Kd.V_alloc | apply Kd.V_drewN | apply Kd.V_drew)); exact Kd.V_mono (Kd.V_far (p := ⟨gb183, 1, none⟩) (Kd.V_far (p := ⟨gb183, 0, none⟩) (Kd.V_mono HL182_1.out (fun k_ hk => (⟨hk, hk.2⟩ : _ ∧ k_ ≠ gb183))) (fun _ hk => hk.2) (.slice A182_0 ((rd_T60 l0 x12_1).f0).length c182_0)) (fun _ hk => hk.2) (.slice A182_1 ((rd_T60 l0 x12_1).f1).length c182_1)) (fun _ hk => ⟨hk.1.1.1, ⟨hk.1.1.2, hk.1.2⟩⟩)⟩
           have n4_ : Aside0 (((w13.setCell ⟨gb183, 0, none⟩ (.slice A182_0 ((rd_T60 l0 x12_1).f0).length c182_0)).setCell ⟨gb183, 1, none⟩ (.slice A182_1 ((rd_T60 l0 x12_1).f1).length c182_1)).heap[gb183]? = some (.cells #[.slice A182_0 ((rd_T60 l0 x12_1).f0).length c182_0, .slice A182_1 ((rd_T60 l0 x12_1).f1).length c182_1] 60 (0, 0))) := ⟨by (with_reducible repeat (first | refine q1 ?_ _ | refine q2 ?_ | refine q3 ?_ _)); refine blk_put (cs := #[.slice A182_0 ((rd_T60 l0 x12_1).f0).length c182_0, .slice none 0 0]) ?_ 1 _ rfl; (with_reducible repeat (first | refine q1 ?_ _ | refine q2 ?_ | refine q3 ?_ _)); refine blk_put (cs := #[.slice none 0 0, .slice none 0 0]) ?_ 0 _ rfl; (with_reducible repeat (first | refine q1 ?_ _ | refine q2 ?_ | refine q3 ?_ _)); exact BK183.out⟩
           have n5_ : Aside0 (Below w.heap.size w ((w13.setCell ⟨gb183, 0, none⟩ (.slice A182_0 ((rd_T60 l0 x12_1).f0).length c182_0)).setCell ⟨gb183, 1, none⟩ (.slice A182_1 ((rd_T60 l0 x12_1).f1).length c182_1))) := ⟨by repeat (first | (with_reducible first | exact HB.out | apply q4 | apply q5 | apply q6 | refine q7 ?_ GE183.out) | exact HB.out)⟩
           (try clear HO_7)
           (try clear HO_10)
           (try clear HL182_0)
           (try clear HL182_1)
           (try clear BK183)
           (try clear HB)
           generalize ((w13.setCell ⟨gb183, 0, none⟩ (.slice A182_0 ((rd_T60 l0 x12_1).f0).length c182_0)).setCell ⟨gb183, 1, none⟩ (.slice A182_1 ((rd_T60 l0 x12_1).f1).length c182_1)) = w15 at n0_ n1_ n2_ n3_ n4_ n5_ ⊢
           have HO_7 := n0_
           have HO_10 := n1_
           have HL182_0 := n2_
           have HL182_1 := n3_
           have BK183 := n4_
           have HB := n5_
           clear n0_ n1_ n2_ n3_ n4_ n5_
           have n0_ := Aside0.mk (Kd.N_drew HO_7.out)
           have n1_ := Aside0.mk (Kd.V_drew HO_10.out)
           have n2_ := Aside0.mk (Kd.V_drew HL182_0.out)
           have n3_ := Aside0.mk (Kd.V_drew HL182_1.out)
           have n4_ := Aside0.mk (q2 BK183.out)
           have n5_ := Aside0.mk (q6 HB.out)
           clear HO_7
           clear HO_10
           clear HL182_0
           clear HL182_1
           clear BK183
           clear HB
           have HO_7 := n0_
           have HO_10 := n1_
           have HL182_0 := n2_
           have HL182_1 := n3_
           have BK183 := n4_
           have HB := n5_
           clear n0_ n1_ n2_ n3_ n4_ n5_
           have q17 : ((ji9) : Int) ≤ ((((rd_T60 l0 x12_1).f1).length : Int) : Int) := of_decide_eq_true (by first | (with_reducible assumption) | assumption)
           obtain ⟨i017, hi017, _, hsz17, _⟩ := info_parts info54
           have hroom17 : ((rd_T60 l0 x12_1).f1).length ≤ c182_1 := HC182_1.out
           have hC17 : Kd.F k54 _ _ A182_1 ((rd_T60 l0 x12_1).f1).length ((rd_T60 l0 x12_1).f1) := (Kd.V_at (base := w.heap.size) HL182_1.out).2.2
           have hcut17 := cut_to (P := Tryd.prog) 30 54 .i64 Tryd.underlying30 hi017 A182_1 ((rd_T60 l0 x12_1).f1).length c182_1 (ji9) (of_decide_eq_true (by first | (with_reducible assumption) | assumption)) q17 hroom17
           have hr17 := Kd.F_take (m := ((ji9) : Int).toNat) hC17 (by omega)
           have hy17 : y184.length = ((ji9) : Int).toNat := (by rw [Ny184.out, List.length_take]; omega)
           rw [← Ny184.out] at hr17
           rw [← hy17] at hcut17
           have HO188 := Aside0.mk (show Kd.V k54 54 _ w.heap.size _ (.slice A182_1 y184.length c182_1) y184 from Kd.V_mk (by omega) hr17)
           have HC188 := Aside0.mk (show y184.length ≤ c182_1 from by omega)
           clear hr17 hC17 hroom17 hi017 hsz17
           have KY17 := Aside0.mk hy17
           clear hy17
           replace q17 := eq_true q17
           refine start_ (n := 15) (S := fun w' => w'.cell? ⟨gb183, 0, none⟩ = some (.slice A182_0 ((rd_T60 l0 x12_1).f0).length c182_0) ∧ w'.cell? ⟨gb183, 1, none⟩ = some (.slice A182_1 ((rd_T60 l0 x12_1).f1).length c182_1)) (ds := []) #[false, false, false, false, false, false, false, false, false, false, false, false, false, false, false] (by kernel_rfl) rfl rfl ⟨(blk_cell BK183.out 0).trans rfl, (blk_cell BK183.out 1).trans rfl⟩ (fun hHeld => ?_); refine with_tabW dryrotplain_Few.tab6 dryrotplain_Few.bits6 (fun HT_ HW_ => ?_)
           generalize w15.drew = w16 at HO_7 HO_10 HL182_0 HL182_1 BK183 HB HO188 hHeld ⊢
           refine pure_ (i := 0) (N := some 26) (v := ?_) (a' := ?_) #[true, false, false, false, false, false, false, false, false, false, false, false, false, false, false] rfl rfl (any_of HT_.out (by kernel_rfl)) (fun _ _ _ h => h) (Or.inl ⟨by rfl, ?_⟩) ?_ ?_
           rotate_left
           ·
            intro w'
            go_simp
            with_reducible rfl
           rotate_left
           ·
            simp only [Act.put, qb, qc, qd, i64_w, i32_w]
            rfl
           refine pure_ (i := 1) (N := some 27) (v := ?_) (a' := ?_) #[true, true, false, false, false, false, false, false, false, false, false, false, false, false, false] rfl rfl (any_of HT_.out (by kernel_rfl)) (fun _ _ _ h => h) (Or.inl ⟨by rfl, ?_⟩) ?_ ?_
           rotate_left
           ·
            intro w'
            go_simp
            with_reducible rfl
           rotate_left
           ·
            simp only [Act.put, qb, qc, qd, i64_w, i32_w]
            rfl
           refine pure_ (i := 3) (N := some 29) (v := ?_) (a' := ?_) #[true, true, false, true, false, false, false, false, false, false, false, false, false, false, false] rfl rfl (any_of HT_.out (by kernel_rfl)) (fun _ _ _ h => h) (Or.inl ⟨by rfl, ?_⟩) ?_ ?_
           rotate_left
           ·
            intro w'
            go_simp
            with_reducible rfl
           rotate_left
           ·
            simp only [Act.put, qb, qc, qd, i64_w, i32_w]
            rfl
           refine pure_ (i := 5) (N := some 31) (v := ?_) (a' := ?_) #[true, true, false, true, false, true, false, false, false, false, false, false, false, false, false] rfl rfl (any_of HT_.out (by kernel_rfl)) (fun _ _ _ h => h) (Or.inl ⟨by rfl, ?_⟩) ?_ ?_
           rotate_left
           ·
            intro w'
            go_simp
            with_reducible rfl
           rotate_left
           ·
            simp only [Act.put, qb, qc, qd, i64_w, i32_w]
            rfl
           refine pure_ (i := 8) (N := some 34) (v := ?_) (a' := ?_) #[true, true, false, true, false, true, false, false, true, false, false, false, false, false, false] rfl rfl (any_of HT_.out (by kernel_rfl)) (fun _ _ _ h => h) (Or.inl ⟨by rfl, ?_⟩) ?_ ?_
           rotate_left
           ·
            intro w'
            go_simp
            with_reducible rfl
           rotate_left
           ·
            simp only [Act.put, qb, qc, qd, i64_w, i32_w]
            rfl
           refine take_ (i := 2) (N := some 28) (v := ?_) (a' := ?_) #[true, true, true, true, false, true, false, false, true, false, false, false, false, false, false] rfl rfl (take_ofW HT_.out HW_.out (by kernel_rfl)) (fun _ _ _ h => h) (Or.inl ⟨by rfl, ?_⟩) hHeld ?_ ?_
           rotate_left
           ·
            rintro w' ⟨s0, s1⟩
            go_simp
            with_reducible rfl
           rotate_left
           ·
            simp only [Act.put, qb, qc, qd, i64_w, i32_w]
            rfl
           refine take_ (i := 4) (N := some 30) (v := ?_) (a' := ?_) #[true, true, true, true, true, true, false, false, true, false, false, false, false, false, false] rfl rfl (take_ofW HT_.out HW_.out (by kernel_rfl)) (fun _ _ _ h => h) (Or.inl ⟨by rfl, ?_⟩) hHeld ?_ ?_
           rotate_left
           ·
            rintro w' ⟨s0, s1⟩
            go_simp
            with_reducible rfl
           rotate_left
           ·
            simp only [Act.put, qb, qc, qd, i64_w, i32_w]
            rfl
           refine take_ (i := 6) (N := some 32) (v := ?_) (a' := ?_) #[true, true, true, true, true, true, true, false, true, false, false, false, false, false, false] rfl rfl (take_ofW HT_.out HW_.out (by kernel_rfl)) (fun _ _ _ h => h) (Or.inl ⟨by rfl, ?_⟩) hHeld ?_ ?_
           rotate_left
           ·
            rintro w' ⟨s0, s1⟩
            go_simp
            with_reducible rfl
           rotate_left
           ·
            simp only [Act.put, qb, qc, qd, i64_w, i32_w]
            rfl
           refine pure_ (i := 7) (N := some 33) (v := ?_) (a' := ?_) #[true, true, true, true, true, true, true, true, true, false, false, false, false, false, false] rfl rfl (any_of HT_.out (by kernel_rfl)) (fun _ _ _ h => h) (Or.inl ⟨by rfl, ?_⟩) ?_ ?_
           rotate_left
           ·
            intro w'
            go_simp
            with_reducible rfl
           rotate_left
           ·
            simp only [Act.put, qb, qc, qd, i64_w, i32_w]
            rfl
           refine pure_ (i := 9) (N := some 35) (v := ?_) (a' := ?_) #[true, true, true, true, true, true, true, true, true, true, false, false, false, false, false] rfl rfl (any_of HT_.out (by kernel_rfl)) (fun _ _ _ h => h) (Or.inl ⟨by rfl, ?_⟩) ?_ ?_
           rotate_left
           ·
            intro w'
            go_simp
            with_reducible rfl
           rotate_left
           ·
            simp only [Act.put, qb, qc, qd, i64_w, i32_w]
            rfl
           refine pure_ (i := 10) (N := some 36) (v := ?_) (a' := ?_) #[true, true, true, true, true, true, true, true, true, true, true, false, false, false, false] rfl rfl (any_of HT_.out (by kernel_rfl)) (fun _ _ _ h => h) (Or.inl ⟨by rfl, ?_⟩) ?_ ?_
           rotate_left
           ·
            intro w'
            go_simp
            with_reducible rfl
           rotate_left
           ·
            simp only [Act.put, qb, qc, qd, i64_w, i32_w]
            rfl
           refine pure_ (i := 11) (N := some 37) (v := ?_) (a' := ?_) #[true, true, true, true, true, true, true, true, true, true, true, true, false, false, false] rfl rfl (any_of HT_.out (by kernel_rfl)) (fun _ _ _ h => h) (Or.inl ⟨by rfl, ?_⟩) ?_ ?_
           rotate_left
           ·
            intro w'
            go_simp
            with_reducible rfl
           rotate_left
           ·
            simp only [Act.put, qb, qc, qd, i64_w, i32_w]
            rfl
           refine one_ (i := 12) (N := some 38) #[true, true, true, true, true, true, true, true, true, true, true, true, true, false, false] rfl rfl (one_of HT_.out (by kernel_rfl)) (by decide) (fun K hK => ?_)
           refine value_ (w1 := ?_) (v := ?_) (by rfl) rfl ?_ ?_
           rotate_left 2
           ·
            go_simp
            constructor
            ·
             rfl
            ·
             rfl
           refine hK.out _ _ ⟨(blk_cell (q3 BK183.out _) 0).trans rfl, (blk_cell (q3 BK183.out _) 1).trans rfl⟩ (fun hHeld => ?_)
           clear hK K
           refine norm_ (a' := ?_) ?_ ?_
           rotate_left
           ·
            show Act.put _ (some 38) _ = _
            simp only [Act.put, qb, qc, qd, i64_w, i32_w]
            rfl
           refine one_ (i := 13) (N := some 39) #[true, true, true, true, true, true, true, true, true, true, true, true, true, true, false] rfl rfl (one_of HT_.out (by kernel_rfl)) (by decide) (fun K hK => ?_)
           refine Kd.N_append_step k60 (w0 := w) w.heap.size (by rfl) (.tmp 26) (.tmp 38) 38 60 (.agg #[(.slice none 0 0), (.slice none 0 0)]) 48 rfl Tryd.underlying38 info60 rfl (by decide) (by omega) u7 x7_1 (⟨(rd_T60 l0 x12_1).f0, y184⟩ : S60) [.slice A182_0 ((rd_T60 l0 x12_1).f0).length c182_0, .slice A182_1 y184.length c182_1] (fun k_ => (P0_ k_ ∨ w.heap.size ≤ k_) ∧ k_ ≠ gb183) (fun k_ => ((fun k_ => (P0_ k_ ∨ w.heap.size ≤ k_) ∧ k_ ≠ gb183)) k_ ∧ some k_ ≠ (u7 : Value).ownBlock) rfl rfl ?aP (fun _ hk => hk) ?aF ?aO ?aB ?aS ?aL ?_
           (case aP => exact (k60_mkF _ _ (⟨(rd_T60 l0 x12_1).f0, y184⟩ : S60) (Kd.V_reads' (Kd.V_mono (ok' := (fun k_ => ((fun k_ => (P0_ k_ ∨ w.heap.size ≤ k_) ∧ k_ ≠ gb183)) k_ ∧ some k_ ≠ (u7 : Value).ownBlock)) (HL182_0.out) (fun k_ hk => ⟨⟨hk.1, hk.2.2⟩, hk.2.1⟩))).2.1 (Kd.V_F (Kd.V_mono (ok' := (fun k_ => ((fun k_ => (P0_ k_ ∨ w.heap.size ≤ k_) ∧ k_ ≠ gb183)) k_ ∧ some k_ ≠ (u7 : Value).ownBlock)) (HL182_0.out) (fun k_ hk => ⟨⟨hk.1, hk.2.2⟩, hk.2.1⟩))) (Kd.V_reads' (Kd.V_mono (ok' := (fun k_ => ((fun k_ => (P0_ k_ ∨ w.heap.size ≤ k_) ∧ k_ ≠ gb183)) k_ ∧ some k_ ≠ (u7 : Value).ownBlock)) (HO188.out) (fun k_ hk => ⟨⟨hk.1, hk.2.2⟩, hk.2.1⟩))).2.1 (Kd.V_F (Kd.V_mono (ok' := (fun k_ => ((fun k_ => (P0_ k_ ∨ w.heap.size ≤ k_) ∧ k_ ≠ gb183)) k_ ∧ some k_ ≠ (u7 : Value).ownBlock)) (HO188.out) (fun k_ hk => ⟨⟨hk.1, hk.2.2⟩, hk.2.1⟩)))))
           (case aB => exact (by repeat (first | (with_reducible first | exact HB.out | apply q4 | apply q5 | apply q6 | refine q7 ?_ GE183.out) | exact HB.out)))
           (case aF => exact (fun k_ hk => ⟨(.inr (Nat.le_trans (below_size (by repeat (first | (with_reducible first | exact HB.out | apply q4 | apply q5 | apply q6 | refine q7 ?_ GE183.out) | exact HB.out))) hk)), Kd.freshB (g := gb183) (o := .cells #[.slice A182_0 ((rd_T60 l0 x12_1).f0).length c182_0, .slice A182_1 ((rd_T60 l0 x12_1).f1).length c182_1] 60 (0, 0)) (by (with_reducible repeat (first | refine q1 ?_ _ | refine q2 ?_ | refine q3 ?_ _)); exact BK183.out) k_ hk⟩))
           (case aO => exact (by (with_reducible repeat (first | apply Kd.N_alloc | apply Kd.N_drewN | apply Kd.N_drew)); exact HO_7.out))
           (case aS => exact (below_size (by repeat (first | (with_reducible first | exact HB.out | apply q4 | apply q5 | apply q6 | refine q7 ?_ GE183.out) | exact HB.out))))
           (case aL => have := LMc12.out; omega)
           intro v190 w18 ho hb hg hat
           rw [← Ny189.out] at ho
           have n0_ := Aside0.mk (Kd.V_afterv (ok := (fun k_ => (P0_ k_ ∨ w.heap.size ≤ k_) ∧ k_ ≠ gb183)) (by (with_reducible repeat (first | apply Kd.V_alloc | apply Kd.V_drewN | apply Kd.V_drew)); exact Kd.V_mono HO_10.out (fun _ hk => ⟨⟨hk.1, hk.2.2⟩, hk.2.1⟩)) hg hat)
           have n1_ := Aside0.mk (Kd.V_afterv (ok := (fun k_ => (P0_ k_ ∨ w.heap.size ≤ k_) ∧ k_ ≠ gb183)) (by (with_reducible repeat (first | apply Kd.V_alloc | apply Kd.V_drewN | apply Kd.V_drew)); exact Kd.V_mono HL182_0.out (fun _ hk => ⟨⟨hk.1, hk.2.2⟩, hk.2.1⟩)) hg hat)
           have n2_ := Aside0.mk (Kd.V_afterv (ok := (fun k_ => (P0_ k_ ∨ w.heap.size ≤ k_) ∧ k_ ≠ gb183)) (by (with_reducible repeat (first | apply Kd.V_alloc | apply Kd.V_drewN | apply Kd.V_drew)); exact Kd.V_mono HL182_1.out (fun _ hk => ⟨⟨hk.1, hk.2.2⟩, hk.2.1⟩)) hg hat)
           have n3_ := Aside0.mk (blk_grown (g := gb183) (o := .cells #[.slice A182_0 ((rd_T60 l0 x12_1).f0).length c182_0, .slice A182_1 ((rd_T60 l0 x12_1).f1).length c182_1] 60 (0, 0)) (by (with_reducible repeat (first | refine q1 ?_ _ | refine q2 ?_ | refine q3 ?_ _)); exact BK183.out) hg (Kd.N_away HO_7.out (fun _ hk => hk.2)))
           have n4_ := Aside0.mk (Kd.V_afterv (ok := (fun k_ => (P0_ k_ ∨ w.heap.size ≤ k_) ∧ k_ ≠ gb183)) (by (with_reducible repeat (first | apply Kd.V_alloc | apply Kd.V_drewN | apply Kd.V_drew)); exact Kd.V_mono HO188.out (fun _ hk => ⟨⟨hk.1, hk.2.2⟩, hk.2.1⟩)) hg hat)
           have n5_ := Aside0.mk (hb)
           have n6_ := Aside0.mk (ho)
           clear HO_10
           clear HL182_0
           clear HL182_1
           clear BK183
           clear HO188
           clear HB
           clear HO_7
           have HO_10 := n0_
           have HL182_0 := n1_
           have HL182_1 := n2_
           have BK183 := n3_
           have HO188 := n4_
           have HB := n5_
           have HO191 := n6_
           clear n0_ n1_ n2_ n3_ n4_ n5_ n6_
           clear ho hb hg hat
           refine hK.out _ _ ⟨(blk_cell BK183.out 0).trans rfl, (blk_cell BK183.out 1).trans rfl⟩ (fun hHeld => ?_)
           clear hK K
           refine norm_ (a' := ?_) ?_ ?_
           rotate_left
           ·
            show Act.put _ (some 39) _ = _
            simp only [Act.put, qb, qc, qd, i64_w, i32_w]
            rfl
           refine pure_ (i := 14) (N := some 7) (v := ?_) (a' := ?_) #[true, true, true, true, true, true, true, true, true, true, true, true, true, true, true] rfl rfl (any_of HT_.out (by kernel_rfl)) (fun _ _ _ h => h) (Or.inl ⟨by rfl, ?_⟩) ?_ ?_
           rotate_left
           ·
            intro w'
            go_simp
            with_reducible rfl
           rotate_left
           ·
            simp only [Act.put, qb, qc, qd, i64_w, i32_w]
            rfl
           refine done_ (done_of HT_.out (by kernel_rfl)) ?_
           try go_wp2
           go_roundg k1
           case measure => have := HK1.out; omega
           case rel => exact ⟨(y189), (wrap64 (x12_1 + 1)), (by first | rfl | (simp; done) | (simp [*]; done)), H', ⟨by have := HK1.out; omega⟩, ⟨by (with_reducible repeat (first | apply Kd.N_alloc | apply Kd.N_drewN | apply Kd.N_drew)); exact Kd.N_mono HO191.out (fun _ hk => hk.1)⟩, ⟨by (with_reducible repeat (first | apply Kd.V_alloc | apply Kd.V_drewN | apply Kd.V_drew)); exact Kd.V_mono HO_10.out (fun _ hk => ⟨hk.1.1, hk.2⟩)⟩, ⟨by repeat (first | (with_reducible first | exact HB.out | apply q4 | apply q5 | apply q6 | refine q7 ?_ GE183.out) | exact HB.out)⟩⟩
          ·
           rw [if_neg c12] at H
           exact absurd H (by simp)
         ·
          rw [if_neg c11] at H
          exact absurd H (by simp)
        ·
         rw [if_neg c10] at H
         exact absurd H (by simp)
       ·
        rw [if_neg c8] at H
        have c8b0 : decide ((((rd_T60 l0 x12_1).f0).length : Int) ≤ 10) = false := decide_eq_false c8
        have c8b1 : decide (((rd_T60 l0 x12_1).f0).length ≤ 10) = false := decide_eq_false (by omega)
        clear c8
        have H' := Aside0.mk H
        clear H
        have p182 : 0 ≤ (x12_1 : Int) := of_decide_eq_true (by first | (with_reducible assumption) | assumption)
        have q182 : x12_1 < (l0.length : Int) := of_decide_eq_true (by first | (with_reducible assumption) | assumption)
        obtain ⟨ad182, A182_0, c182_0, A182_1, c182_1, e182, hx182_0, hx182_1, hl182_0, hi182_0, hl182_1, hi182_1⟩ := at_T60 (Kd.V_reads' HO_10.out).2.2 x12_1 p182 q182
        cases e182
        obtain ⟨ce182, hce182, hMe182, hcc182⟩ := Kd.V_get HO_10.out z60 x12_1 p182 (by first | exact q182 | exact of_decide_eq_true (by first | (with_reducible assumption) | assumption) | (have e_ := (Kd.V_reads' HO_10.out).1; omega))
        obtain ⟨ua182_0, uc182_0, ua182_1, uc182_1, rfl, ul182_0, ge182_0, ul182_1, ge182_1⟩ := k60_openF hMe182
        have hv182_0 := hcc182 0 _ rfl
        rw [Nat.add_zero] at hv182_0
        replace hv182_0 := Option.some.inj (hv182_0.symm.trans hx182_0)
        injection hv182_0 with hva_ hvn_ hvc_
        rw [hva_] at ge182_0
        rw [hvc_] at ul182_0
        have HL182_0 := Aside0.mk (show Kd.V k65 65 _ w.heap.size _ _ ((rd_T60 l0 x12_1).f0) from Kd.V_mk ul182_0 ge182_0)
        clear hva_ hvn_ hvc_ ge182_0 ul182_0
        have hv182_1 := hcc182 1 _ rfl
        rw [add_field _ _ 1 (by omega)] at hv182_1
        replace hv182_1 := Option.some.inj (hv182_1.symm.trans hx182_1)
        injection hv182_1 with hva_ hvn_ hvc_
        rw [hva_] at ge182_1
        rw [hvc_] at ul182_1
        have HL182_1 := Aside0.mk (show Kd.V k54 54 _ w.heap.size _ _ ((rd_T60 l0 x12_1).f1) from Kd.V_mk ul182_1 ge182_1)
        clear hva_ hvn_ hvc_ ge182_1 ul182_1
        clear hcc182 hce182
        have HR182_0 := Aside0.mk hi182_0
        have HC182_0 := Aside0.mk hl182_0
        clear hi182_0 hl182_0
        have HR182_1 := Aside0.mk hi182_1
        have HC182_1 := Aside0.mk hl182_1
        clear hi182_1 hl182_1
        replace p182 := eq_true p182
        replace q182 := eq_true q182
        go_wp2_with (first | ((with_reducible refine gate_dst (N := 9) rfl ?_); (try (refine gate_guard (by rfl) ?_; dsimp only)); refine box_event ?hg (N := 9) ?hd (cs := #[.slice none 0 0, .slice none 0 0]) (t := 60) ?hr ?_; (case hd => rfl); (case hg => rfl); (case hr => first | (go_simp; done) | (go_simp; rfl)); intro gb183 hg w19 hbox hb; have n0_ := Aside0.mk (Kd.N_below (Kd.N_elderB (by (with_reducible repeat (first | apply Kd.N_alloc | apply Kd.N_drewN | apply Kd.N_drew)); exact HO_7.out) gb183 (Nat.le_of_eq hg.symm)) hb); have n1_ := Aside0.mk (Kd.V_below (Kd.V_elderB (by (with_reducible repeat (first | apply Kd.V_alloc | apply Kd.V_drewN | apply Kd.V_drew)); exact HO_10.out) gb183 (Nat.le_of_eq hg.symm)) hb); have n2_ := Aside0.mk (Kd.V_below (Kd.V_elderB (by (with_reducible repeat (first | apply Kd.V_alloc | apply Kd.V_drewN | apply Kd.V_drew)); exact HL182_0.out) gb183 (Nat.le_of_eq hg.symm)) hb); have n3_ := Aside0.mk (Kd.V_below (Kd.V_elderB (by (with_reducible repeat (first | apply Kd.V_alloc | apply Kd.V_drewN | apply Kd.V_drew)); exact HL182_1.out) gb183 (Nat.le_of_eq hg.symm)) hb); have n4_ := Aside0.mk (Kd.C_below (by repeat (first | (with_reducible exact HR182_0.out) | (with_reducible refine Kd.C_alloc ?_ _) | (with_reducible refine Kd.C_drewN ?_ _) | (with_reducible refine Kd.C_drew ?_) | exact HR182_0.out)) hb); have n5_ := Aside0.mk (Kd.C_below (by repeat (first | (with_reducible exact HR182_1.out) | (with_reducible refine Kd.C_alloc ?_ _) | (with_reducible refine Kd.C_drewN ?_ _) | (with_reducible refine Kd.C_drew ?_) | exact HR182_1.out)) hb); have n6_ := Aside0.mk (below_step (by repeat (first | (with_reducible first | exact HB.out | apply q4 | apply q5 | apply q6) | exact HB.out)) hb); have n7_ := Aside0.mk (hbox); have n8_ := Aside0.mk ((by rw [hg]; exact (below_size (by repeat (first | (with_reducible first | exact HB.out | apply q4 | apply q5 | apply q6) | exact HB.out))) : w.heap.size ≤ gb183)); have n9_ := Aside0.mk ((by rw [hg]; exact (below_size (by repeat (first | (with_reducible first | exact HB.out | apply q4 | apply q5 | apply q6) | exact HB.out))) : w.heap.size ≤ gb183)); clear HO_7; clear HO_10; clear HL182_0; clear HL182_1; clear HR182_0; clear HR182_1; clear HB; have HO_7 := n0_; have HO_10 := n1_; have HL182_0 := n2_; have HL182_1 := n3_; have HR182_0 := n4_; have HR182_1 := n5_; have HB := n6_; have BK183 := n7_; have GW183 := n8_; have GE183 := n9_; clear n0_ n1_ n2_ n3_ n4_ n5_ n6_ n7_ n8_ n9_; clear hb hbox hg; have hcz20_0 := cz0 BK183.out; have hcz20_1 := cz1 BK183.out; have hfz20_0 := blk_frozen BK183.out 0; have hfz20_1 := blk_frozen BK183.out 1))
        go_roundg k1
        case measure => have := HK1.out; omega
        case rel => exact ⟨(x7_1), (wrap64 (x12_1 + 1)), (by first | rfl | (simp; done) | (simp [*]; done)), H', ⟨by have := HK1.out; omega⟩, ⟨by (with_reducible repeat (first | apply Kd.N_alloc | apply Kd.N_drewN | apply Kd.N_drew)); exact Kd.N_mono (Kd.N_far (p := ⟨gb183, 1, none⟩) (Kd.N_far (p := ⟨gb183, 0, none⟩) (Kd.N_mono HO_7.out (fun k_ hk => (⟨hk, hk.2⟩ : _ ∧ k_ ≠ gb183))) (fun _ hk => hk.2) (.slice A182_0 ((rd_T60 l0 x12_1).f0).length c182_0)) (fun _ hk => hk.2) (.slice A182_1 ((rd_T60 l0 x12_1).f1).length c182_1)) (fun _ hk => hk.1.1)⟩, ⟨by (with_reducible repeat (first | apply Kd.V_alloc | apply Kd.V_drewN | apply Kd.V_drew)); exact Kd.V_mono (Kd.V_far (p := ⟨gb183, 1, none⟩) (Kd.V_far (p := ⟨gb183, 0, none⟩) (Kd.V_mono HO_10.out (fun k_ hk => (⟨hk, hk.2⟩ : _ ∧ k_ ≠ gb183))) (fun _ hk => hk.2) (.slice A182_0 ((rd_T60 l0 x12_1).f0).length c182_0)) (fun _ hk => hk.2) (.slice A182_1 ((rd_T60 l0 x12_1).f1).length c182_1)) (fun _ hk => ⟨hk.1.1.1, hk.1.1.2⟩)⟩, ⟨by repeat (first | (with_reducible first | exact HB.out | apply q4 | apply q5 | apply q6 | refine q7 ?_ GE183.out) | exact HB.out)⟩⟩
      ·
       rw [if_neg c7] at H
       have c7b0 : decide (x12_1 < a1) = false := decide_eq_false c7
       clear c7
       have H' := Aside0.mk H
       clear H
       have p182 : 0 ≤ (x12_1 : Int) := of_decide_eq_true (by first | (with_reducible assumption) | assumption)
       have q182 : x12_1 < (l0.length : Int) := of_decide_eq_true (by first | (with_reducible assumption) | assumption)
       obtain ⟨ad182, A182_0, c182_0, A182_1, c182_1, e182, hx182_0, hx182_1, hl182_0, hi182_0, hl182_1, hi182_1⟩ := at_T60 (Kd.V_reads' HO_10.out).2.2 x12_1 p182 q182
       cases e182
       obtain ⟨ce182, hce182, hMe182, hcc182⟩ := Kd.V_get HO_10.out z60 x12_1 p182 (by first | exact q182 | exact of_decide_eq_true (by first | (with_reducible assumption) | assumption) | (have e_ := (Kd.V_reads' HO_10.out).1; omega))
       obtain ⟨ua182_0, uc182_0, ua182_1, uc182_1, rfl, ul182_0, ge182_0, ul182_1, ge182_1⟩ := k60_openF hMe182
       have hv182_0 := hcc182 0 _ rfl
       rw [Nat.add_zero] at hv182_0
       replace hv182_0 := Option.some.inj (hv182_0.symm.trans hx182_0)
       injection hv182_0 with hva_ hvn_ hvc_
       rw [hva_] at ge182_0
       rw [hvc_] at ul182_0
       have HL182_0 := Aside0.mk (show Kd.V k65 65 _ w.heap.size _ _ ((rd_T60 l0 x12_1).f0) from Kd.V_mk ul182_0 ge182_0)
       clear hva_ hvn_ hvc_ ge182_0 ul182_0
       have hv182_1 := hcc182 1 _ rfl
       rw [add_field _ _ 1 (by omega)] at hv182_1
       replace hv182_1 := Option.some.inj (hv182_1.symm.trans hx182_1)
       injection hv182_1 with hva_ hvn_ hvc_
       rw [hva_] at ge182_1
       rw [hvc_] at ul182_1
       have HL182_1 := Aside0.mk (show Kd.V k54 54 _ w.heap.size _ _ ((rd_T60 l0 x12_1).f1) from Kd.V_mk ul182_1 ge182_1)
       clear hva_ hvn_ hvc_ ge182_1 ul182_1
       clear hcc182 hce182
       have HR182_0 := Aside0.mk hi182_0
       have HC182_0 := Aside0.mk hl182_0
       clear hi182_0 hl182_0
       have HR182_1 := Aside0.mk hi182_1
       have HC182_1 := Aside0.mk hl182_1
       clear hi182_1 hl182_1
       replace p182 := eq_true p182
       replace q182 := eq_true q182
       go_wp2_with (first | ((with_reducible refine gate_dst (N := 9) rfl ?_); (try (refine gate_guard (by rfl) ?_; dsimp only)); refine box_event ?hg (N := 9) ?hd (cs := #[.slice none 0 0, .slice none 0 0]) (t := 60) ?hr ?_; (case hd => rfl); (case hg => rfl); (case hr => first | (go_simp; done) | (go_simp; rfl)); intro gb183 hg w21 hbox hb; have n0_ := Aside0.mk (Kd.N_below (Kd.N_elderB (by (with_reducible repeat (first | apply Kd.N_alloc | apply Kd.N_drewN | apply Kd.N_drew)); exact HO_7.out) gb183 (Nat.le_of_eq hg.symm)) hb); have n1_ := Aside0.mk (Kd.V_below (Kd.V_elderB (by (with_reducible repeat (first | apply Kd.V_alloc | apply Kd.V_drewN | apply Kd.V_drew)); exact HO_10.out) gb183 (Nat.le_of_eq hg.symm)) hb); have n2_ := Aside0.mk (Kd.V_below (Kd.V_elderB (by (with_reducible repeat (first | apply Kd.V_alloc | apply Kd.V_drewN | apply Kd.V_drew)); exact HL182_0.out) gb183 (Nat.le_of_eq hg.symm)) hb); have n3_ := Aside0.mk (Kd.V_below (Kd.V_elderB (by (with_reducible repeat (first | apply Kd.V_alloc | apply Kd.V_drewN | apply Kd.V_drew)); exact HL182_1.out) gb183 (Nat.le_of_eq hg.symm)) hb); have n4_ := Aside0.mk (Kd.C_below (by repeat (first | (with_reducible exact HR182_0.out) | (with_reducible refine Kd.C_alloc ?_ _) | (with_reducible refine Kd.C_drewN ?_ _) | (with_reducible refine Kd.C_drew ?_) | exact HR182_0.out)) hb); have n5_ := Aside0.mk (Kd.C_below (by repeat (first | (with_reducible exact HR182_1.out) | (with_reducible refine Kd.C_alloc ?_ _) | (with_reducible refine Kd.C_drewN ?_ _) | (with_reducible refine Kd.C_drew ?_) | exact HR182_1.out)) hb); have n6_ := Aside0.mk (below_step (by repeat (first | (with_reducible first | exact HB.out | apply q4 | apply q5 | apply q6) | exact HB.out)) hb); have n7_ := Aside0.mk (hbox); have n8_ := Aside0.mk ((by rw [hg]; exact (below_size (by repeat (first | (with_reducible first | exact HB.out | apply q4 | apply q5 | apply q6) | exact HB.out))) : w.heap.size ≤ gb183)); have n9_ := Aside0.mk ((by rw [hg]; exact (below_size (by repeat (first | (with_reducible first | exact HB.out | apply q4 | apply q5 | apply q6) | exact HB.out))) : w.heap.size ≤ gb183)); clear HO_7; clear HO_10; clear HL182_0; clear HL182_1; clear HR182_0; clear HR182_1; clear HB; have HO_7 := n0_; have HO_10 := n1_; have HL182_0 := n2_; have HL182_1 := n3_; have HR182_0 := n4_; have HR182_1 := n5_; have HB := n6_; have BK183 := n7_; have GW183 := n8_; have GE183 := n9_; clear n0_ n1_ n2_ n3_ n4_ n5_ n6_ n7_ n8_ n9_; clear hb hbox hg; have hcz22_0 := cz0 BK183.out; have hcz22_1 := cz1 BK183.out; have hfz22_0 := blk_frozen BK183.out 0; have hfz22_1 := blk_frozen BK183.out 1))
       go_roundg k1
       case measure => have := HK1.out; omega
       case rel => exact ⟨(x7_1), (wrap64 (x12_1 + 1)), (by first | rfl | (simp; done) | (simp [*]; done)), H', ⟨by have := HK1.out; omega⟩, ⟨by (with_reducible repeat (first | apply Kd.N_alloc | apply Kd.N_drewN | apply Kd.N_drew)); exact Kd.N_mono (Kd.N_far (p := ⟨gb183, 1, none⟩) (Kd.N_far (p := ⟨gb183, 0, none⟩) (Kd.N_mono HO_7.out (fun k_ hk => (⟨hk, hk.2⟩ : _ ∧ k_ ≠ gb183))) (fun _ hk => hk.2) (.slice A182_0 ((rd_T60 l0 x12_1).f0).length c182_0)) (fun _ hk => hk.2) (.slice A182_1 ((rd_T60 l0 x12_1).f1).length c182_1)) (fun _ hk => hk.1.1)⟩, ⟨by (with_reducible repeat (first | apply Kd.V_alloc | apply Kd.V_drewN | apply Kd.V_drew)); exact Kd.V_mono (Kd.V_far (p := ⟨gb183, 1, none⟩) (Kd.V_far (p := ⟨gb183, 0, none⟩) (Kd.V_mono HO_10.out (fun k_ hk => (⟨hk, hk.2⟩ : _ ∧ k_ ≠ gb183))) (fun _ hk => hk.2) (.slice A182_0 ((rd_T60 l0 x12_1).f0).length c182_0)) (fun _ hk => hk.2) (.slice A182_1 ((rd_T60 l0 x12_1).f1).length c182_1)) (fun _ hk => ⟨hk.1.1.1, hk.1.1.2⟩)⟩, ⟨by repeat (first | (with_reducible first | exact HB.out | apply q4 | apply q5 | apply q6 | refine q7 ?_ GE183.out) | exact HB.out)⟩⟩
     ·
      rw [if_neg c6] at H
      exact absurd H (by simp)
    ·
     rw [if_neg c5] at H
     exact absurd H (by simp)
   ·
    rw [if_neg c4] at H
    have c4b0 : decide (x12_1 < (l0.length : Int)) = false := decide_eq_false c4
    clear c4
    obtain rfl := Option.some.inj H
    go_wp2
    go_ret
    exact ⟨_, by first | rfl | (simp [errW_none, errW_some] <;> rfl) | (simp [*, errW_none, errW_some] <;> rfl), by (with_reducible repeat (first | apply Kd.N_alloc | apply Kd.N_drewN | apply Kd.N_drew)); exact HO_7.out, by repeat (first | (with_reducible first | exact HB.out | apply q4 | apply q5 | apply q6) | exact HB.out)⟩

end Go.Proofs.YtbgmnmjokdfmlaaDoor.PA
namespace Go.Proofs.YtbgmnmjokdfmlaaDoor.PA
open Go.RowKit Go.Proofs.YtbgmnmjokdfmlaaDoor.G Go.Proofs.YtbgmnmjokdfmlaaDoorW.PrintWords Go.Proofs.YtbgmnmjokdfmlaaDoorW.PrintLast Go.Proofs.YtbgmnmjokdfmlaaDoorW.PrintMore
def FewP (l : List S60) (m2 : Nat) (x : S60) : Prop := (∃ y ∈ l, x.f0 = y.f0 ∧ ∀ s ∈ x.f1, s ∈ y.f1) ∧ x.f0.length ≤ 10 ∧ x.f1.length ≤ m2
theorem few_from (l : List S60) (hl : l.length ≤ 2932031007402) (m1 m2 : Nat) : ∀ d i, i + d = l.length → ∀ (out : List S60), out.length ≤ i → out.length ≤ m1 → (∀ x ∈ out, FewP l m2 x) → ∃ r, (∀ k, d < k → dryrotplain_Few.l0 k (m1 : Int) (m2 : Int) out l (l.length : Int) (i : Int) = some r) ∧ r.length ≤ m1 ∧ ∀ x ∈ r, FewP l m2 x
  | 0, i, h, out, h1, h2, h3 => by
    refine ⟨out, fun k hk => ?_, h2, h3⟩
    cases k with
    | zero => omega
    | succ k => rw [dryrotplain_Few.l0, if_neg (by omega)]
  | d + 1, i, h, out, h1, h2, h3 => by
    have hi : i < l.length := by omega
    have hw : wrap64 ((i : Int) + 1) = ((i + 1 : Nat) : Int) := by unfold wrap64; omega
    have hm := rd_memZ l i hi
    have hmn : 0 ≤ mn ((rd_T60 l (i : Int)).f1.length : Int) (m2 : Int) ∧ mn ((rd_T60 l (i : Int)).f1.length : Int) (m2 : Int) ≤ ((rd_T60 l (i : Int)).f1.length : Int) ∧ mn ((rd_T60 l (i : Int)).f1.length : Int) (m2 : Int) ≤ (m2 : Int) := by
      unfold mn
      split <;> omega
    by_cases hc : (i : Int) < (m1 : Int) ∧ ((rd_T60 l (i : Int)).f0.length : Int) ≤ 10
    · obtain ⟨r, h4, h5, h6⟩ := few_from l hl m1 m2 d (i + 1) (by omega) (out ++ [⟨(rd_T60 l (i : Int)).f0, (rd_T60 l (i : Int)).f1.take (mn ((rd_T60 l (i : Int)).f1.length : Int) (m2 : Int)).toNat⟩]) (by rw [List.length_append]; simp; omega) (by rw [List.length_append]; simp; omega) (fun x hx => by
        rcases List.mem_append.1 hx with hx | hx
        · exact h3 x hx
        · simp only [List.mem_cons, List.not_mem_nil, or_false] at hx
          subst hx
          refine ⟨⟨_, hm, rfl, fun s hs => List.mem_of_mem_take hs⟩, by simp only; omega, ?_⟩
          simp only [List.length_take]
          omega)
      refine ⟨r, fun k hk => ?_, h5, h6⟩
      cases k with
      | zero => omega
      | succ k => rw [dryrotplain_Few.l0, if_pos (by omega), if_pos (by omega), if_pos (by omega), if_pos hc.1, if_pos hc.2, if_pos hmn.1, if_pos hmn.2.1, if_pos (by omega), hw]; exact h4 k (by omega)
    · obtain ⟨r, h4, h5, h6⟩ := few_from l hl m1 m2 d (i + 1) (by omega) out (by omega) h2 h3
      refine ⟨r, fun k hk => ?_, h5, h6⟩
      cases k with
      | zero => omega
      | succ k =>
        rw [dryrotplain_Few.l0, if_pos (by omega), if_pos (by omega), if_pos (by omega), hw]
        by_cases hc1 : (i : Int) < (m1 : Int)
        · rw [if_pos hc1, if_neg (fun h => hc ⟨hc1, h⟩)]; exact h4 k (by omega)
        · rw [if_neg hc1]; exact h4 k (by omega)
theorem few_L (l : List S60) (hl : l.length ≤ 2932031007402) (m1 m2 : Nat) : ∃ r, dryrotplain_Few.f (l.length + 1) l (m1 : Int) (m2 : Int) = some r ∧ r.length ≤ m1 ∧ ∀ x ∈ r, FewP l m2 x := by
  obtain ⟨r, h1, h2, h3⟩ := few_from l hl m1 m2 l.length 0 (by omega) [] (Nat.zero_le _) (Nat.zero_le _) (fun x hx => by cases hx)
  exact ⟨r, h1 _ (by omega), h2, h3⟩
def okW (l : List S60) : Prop := ∀ x ∈ l, okLs x.f0 ∧ ∀ s ∈ x.f1, okS s
theorem few_okZ {l r : List S60} (hw : okW l) (m2 : Nat) (h2 : m2 ≤ 20000) (h : ∀ x ∈ r, FewP l m2 x) : okZ r := fun x hx => by
  obtain ⟨⟨y, hy, e0, e1⟩, h0, h1⟩ := h x hx
  refine ⟨by rw [e0]; exact (hw y hy).1, by omega, by omega, fun s hs => (hw y hy).2 s (e1 s hs)⟩
end Go.Proofs.YtbgmnmjokdfmlaaDoor.PA
namespace Go.Proofs.YtbgmnmjokdfmlaaDoor.PA
open Go.RowKit Go.Proofs.YtbgmnmjokdfmlaaDoor.G Go.Proofs.YtbgmnmjokdfmlaaDoorW.PrintWords Go.Proofs.YtbgmnmjokdfmlaaDoorW.PrintLast Go.Proofs.YtbgmnmjokdfmlaaDoorW.PrintMore
set_option maxHeartbeats 4000000 in
set_option maxRecDepth 100000 in
theorem rencLb.calls (A : Option Addr) (c n : Nat) (l : List S65) (w : World) (hn : l.length = n) (hr : Kd.C k65 w A n l) (hc : n ≤ c) (hok : okLs l) (h : canL l = true) :
    Calls Tryd.prog 35 #[.slice A n c] w fun e w' => ∃ v : Value, e = .returned (.tuple #[v, .int .i64 0]) ∧ Kd.R (Kd.int .u8) 5 w' w.heap.size (fun _ => True) v (encLb l) ∧ Below w.heap.size w w' := by
  subst hn
  have hp := canL_parts h
  have HR := Aside0.mk hr
  have HP := Aside0.mk hp
  have HL := Aside0.mk (encK_len h)
  have HC : Aside0 (Calls Tryd.prog 28 #[.slice A l.length c] w fun e w' => e = .returned (.bool true) ∧ Below w.heap.size w w') := ⟨h ▸ rcanL.calls A c l.length l w rfl hr hc hok⟩
  have hl8 := hp.2.1
  clear hr hc hp h hok
  go_enter Tryd.func35, Tryd.ntmps35
  go_wp2_with (first | (go_at_call 28; (with_reducible refine HC.out.mono ?_); rintro e w1 ⟨rfl, hb⟩; have HB1 := Aside0.mk hb; clear hb))
  have HR0 : Aside0 (Kd.R (Kd.int .u8) 5 (w1.alloc (.cells #[.int .u8 (l.length : Int)] 5)) w.heap.size (fun _ => True) (.slice (some ⟨w1.heap.size, 0, none⟩) 1 1) (encK l 0)) := ⟨Kd.R_of_own (own_lit w1 w.heap.size 5 .u8 [(l.length : Int)] HB1.out.size (by simp)) (fun _ _ => trivial)⟩
  have HB0 := Aside0.mk (below_alloc HB1.out (.cells #[.int .u8 (l.length : Int)] 5))
  go_loopw [4, 16] (fun v i wr => ∃ k : Nat, k ≤ l.length ∧ i = .int .i64 k ∧ Aside0 (Kd.R (Kd.int .u8) 5 wr w.heap.size (fun _ => True) v (encK l k)) ∧ Aside0 (Below w.heap.size w wr)) (fun _ i _ => l.length - (intOf i).toNat)
  case atStart => exact ⟨0, Nat.zero_le _, rfl, HR0, HB0⟩
  case round =>
    clear HR0 HB0
    obtain ⟨k, hk, rfl, HV, HB⟩ := hrel
    by_cases hlt : k < l.length
    · obtain ⟨ad, rfl, c0, c1⟩ := at_T65 (Kd.C_below HR.out HB.out) (k : Int) (by omega) (by omega)
      rw [Int.toNat_natCast] at c0 c1
      have hsz := okAt_sizes (HP.out.2.2 k hlt)
      have HST := Aside0.mk (encK_step l k hlt)
      have HKL : Aside0 ((encK l k).length ≤ 600) := ⟨by have := HL.out k hk; omega⟩
      generalize rd_T65 l (k : Int) = x at *
      obtain ⟨hz0, hz1⟩ := hsz
      have HB0 := Aside0.mk (below_alloc HB.out (.cells #[.string x.f0, .string x.f1] 65 (0, 0)))
      have HBK := Aside0.mk (blk_new wr (.cells #[.string x.f0, .string x.f1] 65 (0, 0)))
      have HV0 := Aside0.mk (Kd.R_below HV.out (below_alloc (Below.refl _ _) (.cells #[.string x.f0, .string x.f1] 65 (0, 0))))
      have cI1 := (blk_cell HBK.out 0).trans rfl
      have h8a := u8w (n := x.f0.size) (by omega)
      have h8b := u8w (n := x.f1.size) (by omega)
      clear HV
      go_wp2_with fail
      go_region_held3 (fun W => W.cell? ⟨wr.heap.size, 0, none⟩ = some (.string x.f0)) (first | exact cI1 | exact ca1 | exact cb1 | go_keep) (first | (refine byte_step2 (w0 := w) (W0 := wr.alloc (.cells #[.string x.f0, .string x.f1] 65 (0, 0))) (by repeat (first | exact Below.refl _ _ | apply below_alloc | apply below_drew1)) (by rfl) (.tmp 20) (.tmp 25) 22 5 65 wr.heap.size _ (by rfl) Tryd.underlying22 infoU8 _ _ _ ((x.f0.size : Nat) : Int) (by rfl) (by rfl) HV0.out HB0.out HBK.out (by decide) (have hk_ := HKL.out; by (try simp only [List.length_append, List.length_cons, List.length_nil, bytesOf_length]); omega) (by first | (go_simp; done) | simp) ?_; intro va1 wa1 hr hb hk; have HRa1 := Aside0.mk hr; have HBa1 := Aside0.mk hb; have HKa1 := Aside0.mk hk; have ca1 := (blk_cell hk 0).trans rfl; clear hr hb hk) | (refine str_step2 (w0 := w) (W0 := wa1) (by repeat (first | exact Below.refl _ _ | apply below_alloc | apply below_drew1)) (by rfl) (.tmp 26) (.tmp 28) 22 9 5 65 wr.heap.size _ (by rfl) Tryd.underlying22 Tryd.underlying9 infoU8 _ _ x.f0 (by rfl) (by rfl) HRa1.out HBa1.out HKa1.out (by decide) (have hk_ := HKL.out; by (try simp only [List.length_append, List.length_cons, List.length_nil, bytesOf_length]); omega) ?_; intro vb1 wb1 hr hb hk; have HRb1 := Aside0.mk hr; have HBb1 := Aside0.mk hb; have HKb1 := Aside0.mk hk; have cb1 := (blk_cell hk 0).trans rfl; clear hr hb hk))
      have cI2 := (blk_cell HKb1.out 1).trans rfl
      clear cI1 ca1 cb1
      go_wp2_with fail
      go_region_held3 (fun W => W.cell? ⟨wr.heap.size, 1, none⟩ = some (.string x.f1)) (first | exact cI2 | exact ca2 | exact cb2 | go_keep) (first | (refine byte_step2 (w0 := w) (W0 := wb1) (by repeat (first | exact Below.refl _ _ | apply below_alloc | apply below_drew1)) (by rfl) (.tmp 30) (.tmp 35) 22 5 65 wr.heap.size _ (by rfl) Tryd.underlying22 infoU8 _ _ _ ((x.f1.size : Nat) : Int) (by rfl) (by rfl) HRb1.out HBb1.out HKb1.out (by decide) (have hk_ := HKL.out; by (try simp only [List.length_append, List.length_cons, List.length_nil, bytesOf_length]); omega) (by first | (go_simp; done) | simp) ?_; intro va2 wa2 hr hb hk; have HRa2 := Aside0.mk hr; have HBa2 := Aside0.mk hb; have HKa2 := Aside0.mk hk; have ca2 := (blk_cell hk 1).trans rfl; clear hr hb hk) | (refine str_step2 (w0 := w) (W0 := wa2) (by repeat (first | exact Below.refl _ _ | apply below_alloc | apply below_drew1)) (by rfl) (.tmp 36) (.tmp 38) 22 9 5 65 wr.heap.size _ (by rfl) Tryd.underlying22 Tryd.underlying9 infoU8 _ _ x.f1 (by rfl) (by rfl) HRa2.out HBa2.out HKa2.out (by decide) (have hk_ := HKL.out; by (try simp only [List.length_append, List.length_cons, List.length_nil, bytesOf_length]); omega) ?_; intro vb2 wb2 hr hb hk; have HRb2 := Aside0.mk hr; have HBb2 := Aside0.mk hb; have HKb2 := Aside0.mk hk; have cb2 := (blk_cell hk 1).trans rfl; clear hr hb hk))
      go_wp2
      go_roundw
      case rel => exact ⟨k + 1, by omega, by go_num, ⟨by have h_ := HRb2.out; rw [HST.out]; simpa [encX, encT] using h_⟩, HBb2⟩
      case measure => simp [intOf]; omega
    · obtain rfl : k = l.length := by omega
      rw [encK_all] at HV
      go_wp2
      refine bodyPost_ret (results_tmp2 rfl _ _ _) rfl ?_
      exact ⟨_, rfl, HV.out, HB.out⟩
theorem rencLb.bad (A : Option Addr) (c n : Nat) (l : List S65) (w : World) (hn : l.length = n) (hr : Kd.C k65 w A n l) (hc : n ≤ c) (hok : okLs l) (h : canL l = false) :
    Calls Tryd.prog 35 #[.slice A n c] w fun e w' => e = .returned (.tuple #[.slice none 0 0, .int .i64 1]) ∧ Below w.heap.size w w' := by
  have HC : Aside0 (Calls Tryd.prog 28 #[.slice A n c] w fun e w' => e = .returned (.bool false) ∧ Below w.heap.size w w') := ⟨h ▸ rcanL.calls A c n l w hn hr hc hok⟩
  clear hr hc h hn hok
  go_enter Tryd.func35, Tryd.ntmps35
  go_wp2_with (first | (go_at_call 28; (with_reducible refine HC.out.mono ?_); rintro e w1 ⟨rfl, hb⟩; have HB1 := Aside0.mk hb; clear hb))
  refine bodyPost_ret (results_tmp2 rfl _ _ _) rfl ?_
  exact ⟨rfl, HB1.out⟩
end Go.Proofs.YtbgmnmjokdfmlaaDoor.PA
namespace Go.Proofs.YtbgmnmjokdfmlaaDoor.PA
open Go.RowKit Go.Proofs.YtbgmnmjokdfmlaaDoor.G Go.Proofs.YtbgmnmjokdfmlaaDoorW.PrintWords Go.Proofs.YtbgmnmjokdfmlaaDoorW.PrintLast Go.Proofs.YtbgmnmjokdfmlaaDoorW.PrintMore
theorem rEncode.calls_in {n : Nat} (A : Option Addr) (c : Nat) (l : List S54) (w : World) (hn : l.length = n) (hr : Kd.C k54 w A l.length l) (hc : l.length ≤ c) (hw : ∀ x ∈ l, okS x) (hlen : l.length ≤ 20000) (h : canS l = true) :
    Calls Tryd.prog 36 #[.slice A n c] w fun e w' => ∃ v : Value, e = .returned (.tuple #[v, .int .i64 0]) ∧ Kd.R (Kd.int .u8) 5 w' w.heap.size (fun _ => True) v (encL l) ∧ Below w.heap.size w w' := by
  subst hn
  exact rEncode.ok A c l w hr hc hw hlen h
end Go.Proofs.YtbgmnmjokdfmlaaDoor.PA
namespace Go.Proofs.YtbgmnmjokdfmlaaDoor.PA
open Go.RowKit Go.Proofs.YtbgmnmjokdfmlaaDoor.G Go.Proofs.YtbgmnmjokdfmlaaDoorW.PrintWords Go.Proofs.YtbgmnmjokdfmlaaDoorW.PrintLast Go.Proofs.YtbgmnmjokdfmlaaDoorW.PrintMore
theorem midS (ad : Addr) (len c lo hi : Nat) (h1 : lo < hi) (h2 : hi ≤ len) (hc : len ≤ c) (i j : Int) (hi' : i = (lo : Int)) (hj' : j = (hi : Int)) (W : World) :
    (Instr.slice 30 (.slice (some ad) len c) (some (.int .i64 i)) (some (.int .i64 j)) none).run Tryd.prog W = .ok (.slice (some (ad.add (lo * 2))) (hi - lo) (c - lo)) W := by
  subst hi' hj'
  obtain ⟨i0, hi0, hsz⟩ := infoN54
  rw [cut_mid (P := Tryd.prog) 30 54 .i64 .i64 Tryd.underlying30 hi0 2 hsz (some ad) len c (lo : Int) (hi : Int) (by omega) (by omega) (by omega) hc W]
  simp only [Int.toNat_natCast]
  rw [if_neg (by omega)]
  rfl
theorem blk_past {w1 w2 : World} {g base t : Nat} {cs : Array Value} {v : Value} {xs : List Int} (h : w1.heap[g]? = some (.cells cs t (0, 0))) (hr : Kd.R (Kd.int .u8) 5 w1 base (fun _ => True) v xs) (hg : w1.grownBy w2 v.ownBlock) (ht : t ≠ 5) : w2.heap[g]? = some (.cells cs t (0, 0)) :=
  blk_grown h hg (fun e => by
    obtain ⟨cells, hc⟩ := Kd.R_typed hr g e.symm
    rw [h] at hc
    injection hc with hc
    injection hc with _ h2
    exact ht h2)
theorem row_apart {w wd we : World} {base : Nat} {u v : Value} {xs ys : List Int} (hu : Kd.R (Kd.int .u8) 5 wd w.heap.size (fun _ => True) u xs) (hv : Kd.R (Kd.int .u8) 5 w base (fun _ => True) v ys) (hg : wd.grownBy we v.ownBlock) : Kd.R (Kd.int .u8) 5 we w.heap.size (fun _ => True) u xs :=
  Kd.R_mono (Kd.R_grown (Kd.R_bound hu) hg (fun k hk he => by
    obtain ⟨cells, hc⟩ := Kd.R_typed hv k he.symm
    have h1 := (Array.getElem?_eq_some_iff.1 hc).1
    have h2 := hk.2.1
    omega)) (fun _ _ => trivial)
theorem part_put {u e : List Int} (hu : u.length ≤ 600) (he : e.length ≤ 410) : crc_Put.f (IntKind.u64.wrap (((u ++ e).length : Nat) : Int)) 4 = some (beL (u.length + e.length) 4) := by
  have h := put_f (q := (((u ++ e).length : Nat) : Int)) (by omega) (by rw [List.length_append]; omega) 4
  rw [Int.toNat_natCast] at h
  have e : (u ++ e).length = u.length + e.length := List.length_append
  rw [e] at h ⊢
  exact h
set_option maxHeartbeats 8000000 in
set_option maxRecDepth 100000 in
theorem rencC.calls (A : Option Addr) (c n : Nat) (l : List S60) (w : World) (hn : l.length = n) (hr : Kd.C k60 w A n l) (hc : n ≤ c) (hok : okZ l) (hl : n ≤ 8) (h60 : ∀ x ∈ l, x.f1.length ≤ 60) (h : canC l = true) :
    Calls Tryd.prog 15 #[.slice A n c] w fun e w' => ∃ v : Value, e = .returned (.tuple #[v, .int .i64 0]) ∧ Kd.R (Kd.int .u8) 5 w' w.heap.size (fun _ => True) v (encC l) ∧ Below w.heap.size w w' := by
  subst hn
  have HR := Aside0.mk hr
  have HK := Aside0.mk hok
  have H60 := Aside0.mk h60
  have HCAN : Aside0 (Calls Tryd.prog 18 #[.slice A l.length c] w fun e w' => e = .returned (.bool true) ∧ Below w.heap.size w w') := ⟨h ▸ rcanC.calls A c l.length l w rfl hr hc hok (by omega)⟩
  have HP := Aside0.mk (canC_parts h)
  have HEC := Aside0.mk (encC_len h h60 hok)
  clear hr hok h h60
  go_enter Tryd.func15, Tryd.ntmps15
  go_wp2_with (first | (go_at_call 18; (with_reducible refine HCAN.out.mono ?_); rintro e w1 ⟨rfl, hb⟩; have HB1 := Aside0.mk hb; clear hb))
  have HV1 : Aside0 (Kd.R (Kd.int .u8) 5 w1 w.heap.size (fun _ => True) (.slice none 0 0) (encC (l.take 0))) := ⟨Kd.R_nil _ _ _ _ _⟩
  go_loopw [4, 17] (fun v i wr => ∃ k : Nat, k ≤ l.length ∧ i = .int .i64 k ∧ Aside0 (Kd.R (Kd.int .u8) 5 wr w.heap.size (fun _ => True) v (encC (l.take k))) ∧ Aside0 (Below w.heap.size w wr)) (fun _ i _ => l.length - (intOf i).toNat)
  case atStart => exact ⟨0, Nat.zero_le _, rfl, HV1, HB1⟩
  case round =>
    clear HV1 HB1
    obtain ⟨k, hk, rfl, HV, HB⟩ := hrel
    by_cases hlt : k < l.length
    · obtain ⟨ad, A0, c0, A1, c1, rfl, e0, e1, l0, g0, l1, g1⟩ := at_T60 HR.out (k : Int) (by omega) (by omega)
      rw [Int.toNat_natCast] at e0 e1
      have e0 := pw_cell_below HB.out e0
      have e1 := pw_cell_below HB.out e1
      have HX := Aside0.mk (HK.out _ (rd_memZ l k hlt))
      have HX60 := Aside0.mk (H60.out _ (rd_memZ l k hlt))
      have HCX := Aside0.mk (HP.out k hlt)
      have HST := Aside0.mk (encC_step l k hlt)
      obtain ⟨x, ex⟩ : ∃ x, rd_T60 l (k : Int) = x := ⟨_, rfl⟩
      have HCL : Aside0 (canL x.f0 = true ∧ canS x.f1 = true ∧ ¬ x.f1.length = 0) := ⟨by
        have h1 := HCX.out
        rw [okC, ex, canX] at h1
        simp only [Bool.and_eq_true, Bool.not_eq_true', decide_eq_false_iff_not] at h1
        exact ⟨h1.1.1, h1.1.2.2, h1.1.2.1⟩⟩
      rw [ex] at e0 e1 HX g0 l0 g1 l1 HX60 HST
      have HG0 := Aside0.mk g0
      have HL0 := Aside0.mk l0
      have HL1 := Aside0.mk l1
      obtain ⟨a1, hA1, _⟩ := g1.2.2 (Nat.pos_of_ne_zero HCL.out.2.2)
      have HG1 := Aside0.mk g1
      clear ex g0 l0 g1 l1 HCX
      subst hA1
      have HOS : Aside0 (∀ s ∈ x.f1, okS s) := ⟨HX.out.2.2.2⟩
      have HEL : Aside0 ((encLb x.f0).length ≤ 600) := ⟨encLb_len HCL.out.1⟩
      have HUL : Aside0 (0 < (encLb x.f0).length) := ⟨by simp [encLb]⟩
      have HPL : Aside0 ((encC (l.take k)).length ≤ 40000) := ⟨by have := HEC.out k (by omega); omega⟩
      have CE := Aside0.mk (fun W (hb : Below w.heap.size w W) => rencLb.calls A0 c0 _ x.f0 W rfl (Kd.C_below HG0.out hb) HL0.out HX.out.1 HCL.out.1)
      have hx0 := HX60.out
      have hc1 := HL1.out
      generalize hu : encLb x.f0 = u at *
      have HSE : Aside0 (encSer x = encPs u x.f1 ((x.f1.length + 19) / 20)) := ⟨by rw [encSer, hu]⟩
      have HBX0 := Aside0.mk (blk_new wr (.cells #[.slice A0 x.f0.length c0, .slice (some a1) x.f1.length c1] 60 (0, 0)))
      have HBA := Aside0.mk (below_alloc HB.out (.cells #[.slice A0 x.f0.length c0, .slice (some a1) x.f1.length c1] 60 (0, 0)))
      have HV2 : Aside0 (Kd.R (Kd.int .u8) 5 (wr.alloc (.cells #[.slice A0 x.f0.length c0, .slice (some a1) x.f1.length c1] 60 (0, 0))) w.heap.size (fun _ => True) u4 (encC (l.take k) ++ encPs u x.f1 0)) := ⟨by have := Kd.R_below HV.out (below_alloc (Below.refl _ _) (.cells #[.slice A0 x.f0.length c0, .slice (some a1) x.f1.length c1] 60 (0, 0))); simpa [encPs] using this⟩
      clear HK H60 HP hu
      go_wp2
      generalize wr.heap.size = g at HBX0 ⊢
      go_loopw [4, 7] (fun v i wi => ∃ j : Nat, j ≤ (x.f1.length + 19) / 20 ∧ i = .int .i64 ((20 * j : Nat) : Int) ∧ Aside0 (Kd.R (Kd.int .u8) 5 wi w.heap.size (fun _ => True) v (encC (l.take k) ++ encPs u x.f1 j)) ∧ Aside0 (Below w.heap.size w wi) ∧ Aside0 (wi.heap[g]? = some (.cells #[.slice A0 x.f0.length c0, .slice (some a1) x.f1.length c1] 60 (0, 0)))) (fun _ i _ => x.f1.length + 20 - (intOf i).toNat)
      case atStart => exact ⟨0, Nat.zero_le _, rfl, HV2, HBA, HBX0⟩
      case round =>
        clear HV HB HV2 HBA HBX0 e0 e1
        obtain ⟨j, hj, rfl, HV, HB, HBX⟩ := hrel
        have b0 := (blk_cell HBX.out 0).trans rfl
        have b1 := (blk_cell HBX.out 1).trans rfl
        by_cases hjl : 20 * j < x.f1.length
        · obtain ⟨m, hm⟩ : ∃ m, plen x.f1.length j = m := ⟨_, rfl⟩
          obtain ⟨q, hq⟩ : ∃ q, partS x.f1 j = q := ⟨_, rfl⟩
          have hql : q.length = m := by rw [← hq, partS_len, hm]
          have hm20 : 1 ≤ m ∧ m ≤ 20 ∧ j * 20 + m ≤ x.f1.length ∧ (m = 20 ∨ j * 20 + m = x.f1.length) := by rw [← hm]; unfold plen; omega
          have HQO : Aside0 (∀ s ∈ q, okS s) := ⟨fun s hs => HOS.out s (partS_mem (hq ▸ hs))⟩
          have HQC : Aside0 (canS q = true) := ⟨hq ▸ canS_part HCL.out.2.1 j⟩
          have HQ : Aside0 (∀ W, Below w.heap.size w W → Kd.C k54 W (some (a1.add (j * 20 * 2))) q.length q) := ⟨fun W hb => by
            have h1 := Kd.C_mid (c := c1) (lo := j * 20) (hi := j * 20 + m) (Kd.C_below HG1.out hb) (by omega) hm20.2.2.1 HL1.out
            rw [if_neg (by omega)] at h1
            have e : (x.f1.take (j * 20 + m)).drop (j * 20) = q := by rw [← hq, ← hm]; rfl
            rw [e] at h1
            exact h1⟩
          have ENC := Aside0.mk (fun W (hb : Below w.heap.size w W) => rEncode.calls_in (n := m) (some (a1.add (20 * j * 2))) (c1 - 20 * j) q W hql (by rw [Nat.mul_comm 20 j]; exact HQ.out W hb) (by omega) HQO.out (by omega) HQC.out)
          have HQL : Aside0 ((encL q).length ≤ 410 ∧ 0 < (encL q).length) := ⟨encL_len (by omega) HQO.out HQC.out, by rw [encL, List.length_append, beL_length]; omega⟩
          have HPS : Aside0 (encC (l.take k) ++ encPs u x.f1 (j + 1) = encC (l.take k) ++ encPs u x.f1 j ++ beL (u.length + (encL q).length) 4 ++ (u ++ encL q)) := ⟨by rw [encPs_step, hq, encPart]; simp only [List.append_assoc]⟩
          have HLV : Aside0 ((encC (l.take k) ++ encPs u x.f1 j).length ≤ 50000) := ⟨by
            rw [List.length_append]
            have h1 := HPL.out
            have h2 := encPs_len (l := x.f1) HEL.out HOS.out HCL.out.2.1 j
            omega⟩
          obtain ⟨LB, hLB⟩ : ∃ LB, u ++ encL q = LB := ⟨_, rfl⟩
          have HLB := Aside0.mk hLB
          have HLBL : Aside0 (LB.length ≤ 1010 ∧ 0 < LB.length) := ⟨by rw [← hLB, List.length_append]; have := HEL.out; have := HQL.out; omega⟩
          have PUT := Aside0.mk (fun W => dryrotref01_Put.calls (IntKind.u64.wrap ((LB.length : Nat) : Int)) 4 (beL (u.length + (encL q).length) 4) W (by rw [← hLB]; exact part_put HEL.out HQL.out.1))
          rw [hLB] at HPS
          clear hLB
          obtain ⟨OU, hOU⟩ : ∃ OU, encC (l.take k) ++ encPs u x.f1 j = OU := ⟨_, rfl⟩
          rw [hOU] at HV HPS HLV
          have HMN : Aside0 ((min (20 * (j : Int) + 20) (x.f1.length : Int)).toNat - 20 * j = m) := ⟨by omega⟩
          go_wp2_with (first | (go_at_call 35; (with_reducible refine (CE.out _ HB.out).mono ?_); rintro e wa ⟨v5, rfl, hr5, hb⟩; obtain ⟨a5, c5, rfl⟩ := Kd.R_slice1 hr5 HUL.out; have HRa5 := Aside0.mk hr5; have HBa := Aside0.mk hb; have HBwa := Aside0.mk (below_step HB.out hb); have b0a := pw_cell_below hb b0; have b1a := pw_cell_below hb b1; clear hb hr5) | (go_at_call 36; rw [HMN.out]; (with_reducible refine (ENC.out _ HBwa.out).mono ?_); rintro e wb ⟨v6, rfl, hr6, hb⟩; obtain ⟨a6, c6, rfl⟩ := Kd.R_slice1 hr6 HQL.out.2; have HRb6 := Aside0.mk hr6; have HRb5 := Aside0.mk (Kd.R_below HRa5.out hb); have HBb := Aside0.mk (below_step HBa.out hb); clear hb hr6) | ((with_reducible refine gate_dst (N := 50) rfl ?_); go_must (refine Kd.R_append_row (Value.int .u8) 0 (h1 := fun _ => rfl) (w0 := wr) wr.heap.size rfl (.tmp 48) (.tmp 49) 22 5 (.int .u8 0) 1 rfl Tryd.underlying22 infoU8 rfl (by decide) _ u (encL q) (some a6) (encL q).length c6 (fun _ => True) rfl rfl (fun _ _ => trivial) HRb5.out (Kd.R_reads' HRb6.out).2.2 HBb.out HBb.out.size ?h6 ?_); (case h6 => (have h1 := HEL.out; have h2 := HQL.out; omega)); intro v7 wc hr7 hb hg7 ho7; rw [HLB.out] at hr7; obtain ⟨a7, c7, rfl⟩ := Kd.R_slice1 hr7 HLBL.out.2; have HRc := Aside0.mk hr7; have HBc := Aside0.mk hb; clear hr7 hb hg7 ho7) | (go_at_call 37; (with_reducible refine (PUT.out _).mono ?_); rintro e wd ⟨v8, rfl, hr8, hb⟩; obtain ⟨a8, c8, rfl⟩ := Kd.R_slice1 hr8 (by rw [beL_length]; decide); have HRd8 := Aside0.mk hr8; have HRd7 := Aside0.mk (Kd.R_below HRc.out hb); have HBd := Aside0.mk (below_step HBc.out hb); clear hb hr8) | ((with_reducible refine gate_dst (N := 56) rfl ?_); go_must (refine Kd.R_append_row (Value.int .u8) 0 (h1 := fun _ => rfl) (w0 := w) w.heap.size rfl (.tmp 51) (.tmp 55) 22 5 (.int .u8 0) 1 rfl Tryd.underlying22 infoU8 rfl (by decide) _ OU (beL (u.length + (encL q).length) 4) (some a8) (beL (u.length + (encL q).length) 4).length c8 (fun _ => True) rfl rfl (fun _ _ => trivial) (Kd.R_below HV.out HBd.out) (Kd.R_reads' HRd8.out).2.2 (below_step HB.out HBd.out) (below_step HB.out HBd.out).size ?h6 ?_); (case h6 => (have h1 := HLV.out; rw [beL_length]; omega)); intro v9 we hr9 hb hg9 ho9; have HRe := Aside0.mk hr9; have HBe := Aside0.mk hb; have HRe7 := Aside0.mk (row_apart HRd7.out HV.out hg9); have HBXe := Aside0.mk (blk_past (blk_below HBX.out HBd.out) (Kd.R_below HV.out HBd.out) hg9 (by decide)); clear hr9 hb hg9 ho9) | ((with_reducible refine gate_dst (N := 58) rfl ?_); go_must (refine Kd.R_append_row (Value.int .u8) 0 (h1 := fun _ => rfl) (w0 := w) w.heap.size rfl (.tmp 56) (.tmp 57) 22 5 (.int .u8 0) 1 rfl Tryd.underlying22 infoU8 rfl (by decide) _ (OU ++ beL (u.length + (encL q).length) 4) LB (some a7) LB.length c7 (fun _ => True) rfl rfl (fun _ _ => trivial) HRe.out (Kd.R_reads' HRe7.out).2.2 HBe.out HBe.out.size ?h6 ?_); (case h6 => (have h1 := HLV.out; have h2 := HLBL.out; rw [List.length_append, beL_length]; omega)); intro v9 wf hr9 hb hg9 ho9; have HRf := Aside0.mk hr9; have HBf := Aside0.mk hb; have HBXf := Aside0.mk (blk_past HBXe.out HRe.out hg9 (by decide)); clear hr9 hb hg9 ho9))
          go_roundw
          case rel => exact ⟨j + 1, by omega, by go_num, ⟨by rw [HPS.out]; exact HRf.out⟩, HBf, HBXf⟩
          case measure => simp [intOf]; omega
        · have HE : Aside0 (encC (l.take (k + 1)) = encC (l.take k) ++ encPs u x.f1 j) := ⟨by rw [HST.out, HSE.out]; congr 2; omega⟩
          have hnj : ¬ (((20 * j : Nat) : Int) < (x.f1.length : Int)) := by omega
          go_wp2
          go_roundw
          case rel => exact ⟨k + 1, by omega, by go_num, ⟨by rw [HE.out]; exact HV.out⟩, HB⟩
          case measure => simp [intOf]; omega
    · obtain rfl : k = l.length := by omega
      rw [List.take_length] at HV
      go_wp2
      refine bodyPost_ret (results_tmp2 rfl _ _ _) rfl ?_
      exact ⟨_, rfl, HV.out, HB.out⟩
end Go.Proofs.YtbgmnmjokdfmlaaDoor.PA
namespace Go.Proofs.YtbgmnmjokdfmlaaDoor.PA
open Go.RowKit Go.Proofs.YtbgmnmjokdfmlaaDoor.G Go.Proofs.YtbgmnmjokdfmlaaDoorW.PrintWords Go.Proofs.YtbgmnmjokdfmlaaDoorW.PrintLast Go.Proofs.YtbgmnmjokdfmlaaDoorW.PrintMore
set_option maxHeartbeats 4000000 in
set_option maxRecDepth 100000 in
theorem rencC.bad (A : Option Addr) (c n : Nat) (l : List S60) (w : World) (hn : l.length = n) (hr : Kd.C k60 w A n l) (hc : n ≤ c) (hok : okZ l) (hl : n ≤ 8) (h : canC l = false) :
    Calls Tryd.prog 15 #[.slice A n c] w fun e w' => e = .returned (.tuple #[.slice none 0 0, .int .i64 1]) ∧ Below w.heap.size w w' := by
  subst hn
  have HCAN : Aside0 (Calls Tryd.prog 18 #[.slice A l.length c] w fun e w' => e = .returned (.bool false) ∧ Below w.heap.size w w') := ⟨h ▸ rcanC.calls A c l.length l w rfl hr hc hok (by omega)⟩
  clear hr hok h
  go_enter Tryd.func15, Tryd.ntmps15
  go_wp2_with (first | (go_at_call 18; (with_reducible refine HCAN.out.mono ?_); rintro e w1 ⟨rfl, hb⟩; have HB1 := Aside0.mk hb; clear hb))
  refine bodyPost_ret (results_tmp2 rfl _ _ _) rfl ?_
  exact ⟨rfl, HB1.out⟩
theorem rencCF.calls (A : Option Addr) (c n : Nat) (l : List S60) (eb : List Int) (ee : Int) (w : World) (hn : l.length = n) (hr : Kd.C k60 w A n l) (hc : n ≤ c) (hok : okZ l) (hl : n ≤ 8) (h60 : ∀ x ∈ l, x.f1.length ≤ 60) (he : encCF l = (eb, ee)) :
    Calls Tryd.prog 15 #[.slice A n c] w fun e w' => ∃ v : Value, e = .returned (.tuple #[v, .int .i64 ee]) ∧ Kd.R (Kd.int .u8) 5 w' w.heap.size (fun _ => True) v eb ∧ Below w.heap.size w w' := by
  unfold encCF at he
  split at he
  · rename_i h
    cases he
    exact rencC.calls A c n l w hn hr hc hok hl h60 h
  · rename_i h
    cases he
    refine (rencC.bad A c n l w hn hr hc hok hl (by simpa using h)).mono ?_
    rintro e w' ⟨rfl, hb⟩
    exact ⟨_, rfl, Kd.R_nil _ _ _ _ _, hb⟩
end Go.Proofs.YtbgmnmjokdfmlaaDoor.PA
-- written by wip/gprint.py of this session (it runs the print of the guide's kit over contracts of the session)
namespace Go.Proofs.YtbgmnmjokdfmlaaDoor.PA
open Go.RowKit Go.Proofs.YtbgmnmjokdfmlaaDoorW.PrintWords Go.Proofs.YtbgmnmjokdfmlaaDoorW.PrintLast Go.Proofs.YtbgmnmjokdfmlaaDoorW.PrintMore
attribute [local go_sem] max2_int min2_int max_two min_two max_three min_three max_four min_four   -- for this text's walks alone

theorem eqA54 (d : Nat) (w : World) (x0 y0 : Int) (x1 y1 : Int) :
    (Op.equalIn (d + 2) 54 (.agg #[.int .i64 x0, .int .u64 x1]) (.agg #[.int .i64 y0, .int .u64 y1])).run Tryd.prog w = .ok (x0 == y0 && (x1 == y1)) w := by
  refine eqA_of Tryd.underlying54 (by kernel_rfl) ?_
  refine eqf_cons (by rfl) (by go_simp; rfl) (by go_simp; rfl) (by go_simp) ?_
  exact eqf_last (by rfl) (by go_simp; rfl) (by go_simp; rfl) (by go_simp)
end Go.Proofs.YtbgmnmjokdfmlaaDoor.PA
-- written by wip/gprint.py of this session (it runs the print of the guide's kit over contracts of the session)
namespace Go.Proofs.YtbgmnmjokdfmlaaDoor.PA
open Go.RowKit Go.Proofs.YtbgmnmjokdfmlaaDoorW.PrintWords Go.Proofs.YtbgmnmjokdfmlaaDoorW.PrintLast Go.Proofs.YtbgmnmjokdfmlaaDoorW.PrintMore
attribute [local go_sem] max2_int min2_int max_two min_two max_three min_three max_four min_four   -- for this text's walks alone

attribute [local go_sem high] eqA54
/-! ### api_Sample_23: function 23 -/
def api_Sample_23.l0 : Nat → List (S54) → List (S54) → Int → Int → Option (Bool)
  | 0, _, _, _, _ => none
  | k + 1, x0, x1, x12, x13 => if x13 < x12 then (if 0 ≤ x13 then (if x13 < (x0.length : Int) then (if x13 < (x1.length : Int) then (if (!(((rd_T54 x0 x13).f0) == ((rd_T54 x1 x13).f0)) || (!(((rd_T54 x0 x13).f1) == ((rd_T54 x1 x13).f1)))) = true then (some false) else (api_Sample_23.l0 k x0 x1 x12 (wrap64 (x13 + 1)))) else (none)) else (none)) else (none)) else (some true)
def api_Sample_23.f (k : Nat) (l0 : List (S54)) (l1 : List (S54)) : Option (Bool) := if (l0.length : Int) = (l1.length : Int) then (api_Sample_23.l0 k l0 l1 (l0.length : Int) 0) else (some false)
theorem api_Sample_23.mono_l : ∀ k, (∀ y0 y1 y2 y3, LeO (api_Sample_23.l0 k y0 y1 y2 y3) (api_Sample_23.l0 (k + 1) y0 y1 y2 y3))
  | 0 => fun _ _ _ _ r h => by simp [api_Sample_23.l0] at h
  | k + 1 => by
    have ih0 := api_Sample_23.mono_l k
    · intro y0 y1 y2 y3
      unfold api_Sample_23.l0
      repeat' first
      | (with_reducible exact ih0 _ _ _ _)
      | (with_reducible exact LeO.refl _)
      | (with_reducible exact LeO.none _)
      | (with_reducible refine LeO.ite ?_ ?_)
      | (with_reducible refine LeO.bind ?_ (fun _ => ?_))
      | exact ih0 _ _ _ _
      | exact LeO.none _
      | refine LeO.ite ?_ ?_
      | refine LeO.bind ?_ (fun _ => ?_)
theorem api_Sample_23.mono : ∀ a0 a1 k, LeO (api_Sample_23.f k a0 a1) (api_Sample_23.f (k + 1) a0 a1) := by
  intro a0 a1 k
  have ih0 := api_Sample_23.mono_l k
  unfold api_Sample_23.f
  repeat' first
      | (with_reducible exact ih0 _ _ _ _)
      | (with_reducible exact LeO.refl _)
      | (with_reducible exact LeO.none _)
      | (with_reducible refine LeO.ite ?_ ?_)
      | (with_reducible refine LeO.bind ?_ (fun _ => ?_))
      | exact ih0 _ _ _ _
      | exact LeO.none _
      | refine LeO.ite ?_ ?_
      | refine LeO.bind ?_ (fun _ => ?_)
set_option maxHeartbeats 8000000 in
set_option maxRecDepth 100000 in
theorem api_Sample_23.calls (k : Nat) (A0 : Option Addr) (c0 : Nat) (l0 : List (S54)) (A1 : Option Addr) (c1 : Nat) (l1 : List (S54)) (r : Bool) (w : World) (hr0 : Kd.C k54 w A0 l0.length l0) (hc0 : l0.length ≤ c0) (hr1 : Kd.C k54 w A1 l1.length l1) (hc1 : l1.length ≤ c1) (h : api_Sample_23.f k l0 l1 = some r) :
    Calls Tryd.prog 23 #[.slice A0 l0.length c0, .slice A1 l1.length c1] w fun e w' => e = .returned (.bool r) ∧ Drawn0 w w' := by
  have hu54 := Tryd.underlying54
  have HR0 := Aside0.mk hr0
  have HC0 := Aside0.mk hc0
  clear hr0 hc0
  have HR1 := Aside0.mk hr1
  have HC1 := Aside0.mk hc1
  clear hr1 hc1
  have H : (if (l0.length : Int) = (l1.length : Int) then (api_Sample_23.l0 k l0 l1 (l0.length : Int) 0) else (some false)) = some r := h
  clear h
  by_cases c3 : (l0.length : Int) = (l1.length : Int)
  · rw [if_pos c3] at H
    have c3b0 : ((l0.length : Int) == (l1.length : Int)) = true := beq_iff_eq.mpr c3
    have c3b1 : ((l0.length : Int) != (l1.length : Int)) = false := bne_eq_false_iff_eq.mpr c3
    have c3b2 : (l0.length == l1.length) = true := by first | simpa using c3 | (simp at c3 ⊢; omega)
    clear c3
    have H' := Aside0.mk H
    clear H
    go_enter Tryd.func23, Tryd.ntmps23
    go_wp2
    repeat (go_quiet (fail); try go_wp2)
    go_loopg [13] k (fun kq v13 w' => ∃ (x13_1 : Int), v13 = .int .i64 x13_1 ∧ Aside0 (api_Sample_23.l0 kq l0 l1 (l0.length : Int) x13_1 = some r) ∧ Aside0 (kq ≤ k) ∧ Drawn0 w w')
    case atStart => exact ⟨(0), (by first | rfl | (simp; done) | (simp [*]; done)), H', ⟨Nat.le_refl _⟩, by repeat (first | exact Drawn0.refl _ | apply Drawn0.step)⟩
    case round =>
      clear H'
      try clear c1
      try clear c2
      try clear p2
      try clear c3
      try clear c3b0
      try clear c3b1
      try clear c3b2
      obtain ⟨x13_1, rfl, HA, HK1, ⟨m1, rfl⟩⟩ := hrel
      cases gk with
      | zero => exact absurd HA.out (by simp [api_Sample_23.l0])
      | succ k1 =>
        have H := HA.out
        clear HA
        simp only [api_Sample_23.l0] at H
        by_cases c4 : x13_1 < (l0.length : Int)
        · rw [if_pos c4] at H
          have c4b0 : decide (x13_1 < (l0.length : Int)) = true := decide_eq_true c4
          clear c4
          by_cases c5 : 0 ≤ x13_1
          · rw [if_pos c5] at H
            have c5b0 : decide (0 ≤ x13_1) = true := decide_eq_true c5
            clear c5
            by_cases c6 : x13_1 < (l0.length : Int)
            · rw [if_pos c6] at H
              have c6b0 : decide (x13_1 < (l0.length : Int)) = true := decide_eq_true c6
              clear c6
              by_cases c7 : x13_1 < (l1.length : Int)
              · rw [if_pos c7] at H
                have c7b0 : decide (x13_1 < (l1.length : Int)) = true := decide_eq_true c7
                clear c7
                by_cases c8 : (!(((rd_T54 l0 x13_1).f0) == ((rd_T54 l1 x13_1).f0)) || (!(((rd_T54 l0 x13_1).f1) == ((rd_T54 l1 x13_1).f1)))) = true
                · rw [if_pos c8] at H
                  have c8b0 : (!(((rd_T54 l0 x13_1).f0) == ((rd_T54 l1 x13_1).f0)) || (!(((rd_T54 l0 x13_1).f1) == ((rd_T54 l1 x13_1).f1)))) = true := c8
                  clear c8
                  obtain rfl := Option.some.inj H
                  have p322 : 0 ≤ (x13_1 : Int) := of_decide_eq_true (by first | (with_reducible assumption) | assumption)
                  have q322 : x13_1 < (l0.length : Int) := of_decide_eq_true (by first | (with_reducible assumption) | assumption)
                  obtain ⟨ad322, e322, hx322_0, hx322_1⟩ := at_T54 HR0.out x13_1 p322 q322
                  cases e322
                  replace p322 := eq_true p322
                  replace q322 := eq_true q322
                  have p323 : 0 ≤ (x13_1 : Int) := of_decide_eq_true (by first | (with_reducible assumption) | assumption)
                  have q323 : x13_1 < (l1.length : Int) := of_decide_eq_true (by first | (with_reducible assumption) | assumption)
                  obtain ⟨ad323, e323, hx323_0, hx323_1⟩ := at_T54 HR1.out x13_1 p323 q323
                  cases e323
                  replace p323 := eq_true p323
                  replace q323 := eq_true q323
                  go_wp2
                  repeat (go_quiet (fail); try go_wp2)
                  go_ret
                  exact ⟨by first | rfl | (simp; done) | (simp [*]; done) | (simp; decide +kernel), by repeat (first | exact Drawn0.refl _ | apply Drawn0.step)⟩
                · rw [if_neg c8] at H
                  have c8b0 : (!(((rd_T54 l0 x13_1).f0) == ((rd_T54 l1 x13_1).f0)) || (!(((rd_T54 l0 x13_1).f1) == ((rd_T54 l1 x13_1).f1)))) = false := by simpa using c8
                  clear c8
                  have H' := Aside0.mk H
                  clear H
                  have p322 : 0 ≤ (x13_1 : Int) := of_decide_eq_true (by first | (with_reducible assumption) | assumption)
                  have q322 : x13_1 < (l0.length : Int) := of_decide_eq_true (by first | (with_reducible assumption) | assumption)
                  obtain ⟨ad322, e322, hx322_0, hx322_1⟩ := at_T54 HR0.out x13_1 p322 q322
                  cases e322
                  replace p322 := eq_true p322
                  replace q322 := eq_true q322
                  have p323 : 0 ≤ (x13_1 : Int) := of_decide_eq_true (by first | (with_reducible assumption) | assumption)
                  have q323 : x13_1 < (l1.length : Int) := of_decide_eq_true (by first | (with_reducible assumption) | assumption)
                  obtain ⟨ad323, e323, hx323_0, hx323_1⟩ := at_T54 HR1.out x13_1 p323 q323
                  cases e323
                  replace p323 := eq_true p323
                  replace q323 := eq_true q323
                  go_wp2
                  repeat (go_quiet (fail); try go_wp2)
                  go_roundg k1
                  case measure => have := HK1.out; omega
                  case rel => exact ⟨(wrap64 (x13_1 + 1)), (by first | rfl | (simp; done) | (simp [*]; done)), H', ⟨by have := HK1.out; omega⟩, by repeat (first | exact Drawn0.refl _ | apply Drawn0.step)⟩
              · rw [if_neg c7] at H
                exact absurd H (by simp)
            · rw [if_neg c6] at H
              exact absurd H (by simp)
          · rw [if_neg c5] at H
            exact absurd H (by simp)
        · rw [if_neg c4] at H
          have c4b0 : decide (x13_1 < (l0.length : Int)) = false := decide_eq_false c4
          clear c4
          obtain rfl := Option.some.inj H
          go_wp2
          repeat (go_quiet (fail); try go_wp2)
          go_ret
          exact ⟨by first | rfl | (simp; done) | (simp [*]; done) | (simp; decide +kernel), by repeat (first | exact Drawn0.refl _ | apply Drawn0.step)⟩
  · rw [if_neg c3] at H
    have c3b0 : ((l0.length : Int) == (l1.length : Int)) = false := beq_eq_false_iff_ne.mpr c3
    have c3b1 : ((l0.length : Int) != (l1.length : Int)) = true := bne_iff_ne.mpr c3
    have c3b2 : (l0.length == l1.length) = false := by first | simpa using c3 | (simp at c3 ⊢; omega)
    obtain rfl := Option.some.inj H
    go_enter Tryd.func23, Tryd.ntmps23
    go_wp2
    repeat (go_quiet (fail); try go_wp2)
    go_ret
    exact ⟨by first | rfl | (simp; done) | (simp [*]; done) | (simp; decide +kernel), by repeat (first | exact Drawn0.refl _ | apply Drawn0.step)⟩

end Go.Proofs.YtbgmnmjokdfmlaaDoor.PA
-- written by wip/gprint.py of this session (it runs the print of the guide's kit over contracts of the session)
namespace Go.Proofs.YtbgmnmjokdfmlaaDoor.PA
open Go.RowKit Go.Proofs.YtbgmnmjokdfmlaaDoorW.PrintWords Go.Proofs.YtbgmnmjokdfmlaaDoorW.PrintLast Go.Proofs.YtbgmnmjokdfmlaaDoorW.PrintMore
attribute [local go_sem] max2_int min2_int max_two min_two max_three min_three max_four min_four   -- for this text's walks alone

/-! ### slices_Equal_byte_byte: function 16 -/
def slices_Equal_byte_byte.l0 : Nat → List Int → List Int → Int → Int → Option (Bool)
  | 0, _, _, _, _ => none
  | k + 1, x0, x1, x12, x13 => if x13 < x12 then (if 0 ≤ x13 then (if x13 < (x0.length : Int) then (if x13 < (x1.length : Int) then (if (rd x0 x13) = (rd x1 x13) then (slices_Equal_byte_byte.l0 k x0 x1 x12 (wrap64 (x13 + 1))) else (some false)) else (none)) else (none)) else (none)) else (some true)
def slices_Equal_byte_byte.f (k : Nat) (l0 : List Int) (l1 : List Int) : Option (Bool) := if (l0.length : Int) = (l1.length : Int) then (slices_Equal_byte_byte.l0 k l0 l1 (l0.length : Int) 0) else (some false)
theorem slices_Equal_byte_byte.mono_l : ∀ k, (∀ y0 y1 y2 y3, LeO (slices_Equal_byte_byte.l0 k y0 y1 y2 y3) (slices_Equal_byte_byte.l0 (k + 1) y0 y1 y2 y3))
  | 0 => fun _ _ _ _ r h => by simp [slices_Equal_byte_byte.l0] at h
  | k + 1 => by
    have ih0 := slices_Equal_byte_byte.mono_l k
    · intro y0 y1 y2 y3
      unfold slices_Equal_byte_byte.l0
      repeat' first
      | (with_reducible exact ih0 _ _ _ _)
      | (with_reducible exact LeO.refl _)
      | (with_reducible exact LeO.none _)
      | (with_reducible refine LeO.ite ?_ ?_)
      | (with_reducible refine LeO.bind ?_ (fun _ => ?_))
      | exact ih0 _ _ _ _
      | exact LeO.none _
      | refine LeO.ite ?_ ?_
      | refine LeO.bind ?_ (fun _ => ?_)
theorem slices_Equal_byte_byte.mono : ∀ a0 a1 k, LeO (slices_Equal_byte_byte.f k a0 a1) (slices_Equal_byte_byte.f (k + 1) a0 a1) := by
  intro a0 a1 k
  have ih0 := slices_Equal_byte_byte.mono_l k
  unfold slices_Equal_byte_byte.f
  repeat' first
      | (with_reducible exact ih0 _ _ _ _)
      | (with_reducible exact LeO.refl _)
      | (with_reducible exact LeO.none _)
      | (with_reducible refine LeO.ite ?_ ?_)
      | (with_reducible refine LeO.bind ?_ (fun _ => ?_))
      | exact ih0 _ _ _ _
      | exact LeO.none _
      | refine LeO.ite ?_ ?_
      | refine LeO.bind ?_ (fun _ => ?_)
set_option maxHeartbeats 8000000 in
set_option maxRecDepth 100000 in
theorem slices_Equal_byte_byte.calls (k : Nat) (A0 : Option Addr) (c0 : Nat) (l0 : List Int) (A1 : Option Addr) (c1 : Nat) (l1 : List Int) (r : Bool) (w : World) (hr0 : Kd.C (Kd.int .u8) w A0 l0.length l0) (hc0 : l0.length ≤ c0) (hr1 : Kd.C (Kd.int .u8) w A1 l1.length l1) (hc1 : l1.length ≤ c1) (h : slices_Equal_byte_byte.f k l0 l1 = some r) :
    Calls Tryd.prog 16 #[.slice A0 l0.length c0, .slice A1 l1.length c1] w fun e w' => e = .returned (.bool r) ∧ Drawn0 w w' := by
  have HR0 := Aside0.mk hr0
  have HC0 := Aside0.mk hc0
  clear hr0 hc0
  have HR1 := Aside0.mk hr1
  have HC1 := Aside0.mk hc1
  clear hr1 hc1
  have H : (if (l0.length : Int) = (l1.length : Int) then (slices_Equal_byte_byte.l0 k l0 l1 (l0.length : Int) 0) else (some false)) = some r := h
  clear h
  by_cases c3 : (l0.length : Int) = (l1.length : Int)
  · rw [if_pos c3] at H
    have c3b0 : ((l0.length : Int) == (l1.length : Int)) = true := beq_iff_eq.mpr c3
    have c3b1 : ((l0.length : Int) != (l1.length : Int)) = false := bne_eq_false_iff_eq.mpr c3
    have c3b2 : (l0.length == l1.length) = true := by first | simpa using c3 | (simp at c3 ⊢; omega)
    clear c3
    have H' := Aside0.mk H
    clear H
    go_enter Tryd.func16, Tryd.ntmps16
    go_wp2
    repeat (go_quiet (fail); try go_wp2)
    go_loopg [13] k (fun kq v13 w' => ∃ (x13_1 : Int), v13 = .int .i64 x13_1 ∧ Aside0 (slices_Equal_byte_byte.l0 kq l0 l1 (l0.length : Int) x13_1 = some r) ∧ Aside0 (kq ≤ k) ∧ Drawn0 w w')
    case atStart => exact ⟨(0), (by first | rfl | (simp; done) | (simp [*]; done)), H', ⟨Nat.le_refl _⟩, by repeat (first | exact Drawn0.refl _ | apply Drawn0.step)⟩
    case round =>
      clear H'
      try clear c1
      try clear p2
      try clear c3
      try clear c3b0
      try clear c3b1
      try clear c3b2
      obtain ⟨x13_1, rfl, HA, HK1, ⟨m1, rfl⟩⟩ := hrel
      cases gk with
      | zero => exact absurd HA.out (by simp [slices_Equal_byte_byte.l0])
      | succ k1 =>
        have H := HA.out
        clear HA
        simp only [slices_Equal_byte_byte.l0] at H
        by_cases c4 : x13_1 < (l0.length : Int)
        · rw [if_pos c4] at H
          have c4b0 : decide (x13_1 < (l0.length : Int)) = true := decide_eq_true c4
          clear c4
          by_cases c5 : 0 ≤ x13_1
          · rw [if_pos c5] at H
            have c5b0 : decide (0 ≤ x13_1) = true := decide_eq_true c5
            clear c5
            by_cases c6 : x13_1 < (l0.length : Int)
            · rw [if_pos c6] at H
              have c6b0 : decide (x13_1 < (l0.length : Int)) = true := decide_eq_true c6
              clear c6
              by_cases c7 : x13_1 < (l1.length : Int)
              · rw [if_pos c7] at H
                have c7b0 : decide (x13_1 < (l1.length : Int)) = true := decide_eq_true c7
                clear c7
                by_cases c8 : (rd l0 x13_1) = (rd l1 x13_1)
                · rw [if_pos c8] at H
                  have c8b0 : ((rd l0 x13_1) == (rd l1 x13_1)) = true := beq_iff_eq.mpr c8
                  have c8b1 : ((rd l0 x13_1) != (rd l1 x13_1)) = false := bne_eq_false_iff_eq.mpr c8
                  clear c8
                  have H' := Aside0.mk H
                  clear H
                  have p241 : 0 ≤ (x13_1 : Int) := of_decide_eq_true (by first | (with_reducible assumption) | assumption)
                  have q241 : x13_1 < (l0.length : Int) := of_decide_eq_true (by first | (with_reducible assumption) | assumption)
                  obtain ⟨ad241, e241, hx241_0⟩ := Kd.at_int HR0.out x13_1 p241 q241
                  cases e241
                  replace p241 := eq_true p241
                  replace q241 := eq_true q241
                  have p242 : 0 ≤ (x13_1 : Int) := of_decide_eq_true (by first | (with_reducible assumption) | assumption)
                  have q242 : x13_1 < (l1.length : Int) := of_decide_eq_true (by first | (with_reducible assumption) | assumption)
                  obtain ⟨ad242, e242, hx242_0⟩ := Kd.at_int HR1.out x13_1 p242 q242
                  cases e242
                  replace p242 := eq_true p242
                  replace q242 := eq_true q242
                  go_wp2
                  repeat (go_quiet (fail); try go_wp2)
                  go_roundg k1
                  case measure => have := HK1.out; omega
                  case rel => exact ⟨(wrap64 (x13_1 + 1)), (by first | rfl | (simp; done) | (simp [*]; done)), H', ⟨by have := HK1.out; omega⟩, by repeat (first | exact Drawn0.refl _ | apply Drawn0.step)⟩
                · rw [if_neg c8] at H
                  have c8b0 : ((rd l0 x13_1) == (rd l1 x13_1)) = false := beq_eq_false_iff_ne.mpr c8
                  have c8b1 : ((rd l0 x13_1) != (rd l1 x13_1)) = true := bne_iff_ne.mpr c8
                  obtain rfl := Option.some.inj H
                  have p241 : 0 ≤ (x13_1 : Int) := of_decide_eq_true (by first | (with_reducible assumption) | assumption)
                  have q241 : x13_1 < (l0.length : Int) := of_decide_eq_true (by first | (with_reducible assumption) | assumption)
                  obtain ⟨ad241, e241, hx241_0⟩ := Kd.at_int HR0.out x13_1 p241 q241
                  cases e241
                  replace p241 := eq_true p241
                  replace q241 := eq_true q241
                  have p242 : 0 ≤ (x13_1 : Int) := of_decide_eq_true (by first | (with_reducible assumption) | assumption)
                  have q242 : x13_1 < (l1.length : Int) := of_decide_eq_true (by first | (with_reducible assumption) | assumption)
                  obtain ⟨ad242, e242, hx242_0⟩ := Kd.at_int HR1.out x13_1 p242 q242
                  cases e242
                  replace p242 := eq_true p242
                  replace q242 := eq_true q242
                  go_wp2
                  repeat (go_quiet (fail); try go_wp2)
                  go_ret
                  exact ⟨by first | rfl | (simp; done) | (simp [*]; done) | (simp; decide +kernel), by repeat (first | exact Drawn0.refl _ | apply Drawn0.step)⟩
              · rw [if_neg c7] at H
                exact absurd H (by simp)
            · rw [if_neg c6] at H
              exact absurd H (by simp)
          · rw [if_neg c5] at H
            exact absurd H (by simp)
        · rw [if_neg c4] at H
          have c4b0 : decide (x13_1 < (l0.length : Int)) = false := decide_eq_false c4
          clear c4
          obtain rfl := Option.some.inj H
          go_wp2
          repeat (go_quiet (fail); try go_wp2)
          go_ret
          exact ⟨by first | rfl | (simp; done) | (simp [*]; done) | (simp; decide +kernel), by repeat (first | exact Drawn0.refl _ | apply Drawn0.step)⟩
  · rw [if_neg c3] at H
    have c3b0 : ((l0.length : Int) == (l1.length : Int)) = false := beq_eq_false_iff_ne.mpr c3
    have c3b1 : ((l0.length : Int) != (l1.length : Int)) = true := bne_iff_ne.mpr c3
    have c3b2 : (l0.length == l1.length) = false := by first | simpa using c3 | (simp at c3 ⊢; omega)
    obtain rfl := Option.some.inj H
    go_enter Tryd.func16, Tryd.ntmps16
    go_wp2
    repeat (go_quiet (fail); try go_wp2)
    go_ret
    exact ⟨by first | rfl | (simp; done) | (simp [*]; done) | (simp; decide +kernel), by repeat (first | exact Drawn0.refl _ | apply Drawn0.step)⟩

end Go.Proofs.YtbgmnmjokdfmlaaDoor.PA
namespace Go.Proofs.YtbgmnmjokdfmlaaDoor.PA
open Go.RowKit Go.Proofs.YtbgmnmjokdfmlaaDoor.G Go.Proofs.YtbgmnmjokdfmlaaDoorW.PrintWords Go.Proofs.YtbgmnmjokdfmlaaDoorW.PrintLast Go.Proofs.YtbgmnmjokdfmlaaDoorW.PrintMore

theorem eqS_go (l : List S54) (hl : l.length ≤ 1000000) : ∀ d i, i + d = l.length → ∀ k, d < k → api_Sample_23.l0 k l l (l.length : Int) (i : Int) = some true
  | 0, i, h, k + 1, hk => by
    unfold api_Sample_23.l0
    rw [if_neg (by omega)]
  | d + 1, i, h, k + 1, hk => by
    unfold api_Sample_23.l0
    have e : wrap64 ((i : Int) + 1) = ((i + 1 : Nat) : Int) := by rw [w64 (by omega) (by omega)]; omega
    rw [if_pos (by omega), if_pos (by omega), if_pos (by omega), if_pos (by omega), if_neg (by simp), e]
    exact eqS_go l hl d (i + 1) (by omega) k (by omega)
theorem eqB_go (l : List Int) (hl : l.length ≤ 1000000) : ∀ d i, i + d = l.length → ∀ k, d < k → slices_Equal_byte_byte.l0 k l l (l.length : Int) (i : Int) = some true
  | 0, i, h, k + 1, hk => by
    unfold slices_Equal_byte_byte.l0
    rw [if_neg (by omega)]
  | d + 1, i, h, k + 1, hk => by
    unfold slices_Equal_byte_byte.l0
    have e : wrap64 ((i : Int) + 1) = ((i + 1 : Nat) : Int) := by rw [w64 (by omega) (by omega)]; omega
    rw [if_pos (by omega), if_pos (by omega), if_pos (by omega), if_pos (by omega), if_pos rfl, e]
    exact eqB_go l hl d (i + 1) (by omega) k (by omega)
theorem EqualS (A0 : Option Addr) (c0 : Nat) (A1 : Option Addr) (c1 : Nat) (l : List S54) (w : World) (hr0 : Kd.C k54 w A0 l.length l) (hc0 : l.length ≤ c0) (hr1 : Kd.C k54 w A1 l.length l) (hc1 : l.length ≤ c1) (hl : l.length ≤ 1000000) :
    Calls Tryd.prog 23 #[.slice A0 l.length c0, .slice A1 l.length c1] w fun e w' => e = .returned (.bool true) ∧ Below w.heap.size w w' :=
  (api_Sample_23.calls (l.length + 1) A0 c0 l A1 c1 l true w hr0 hc0 hr1 hc1 (by
    unfold api_Sample_23.f
    rw [if_pos rfl]
    exact eqS_go l hl l.length 0 (by omega) _ (by omega))).mono fun e w' ⟨he, hd⟩ => ⟨he, hd.below⟩
theorem EqualB (A0 : Option Addr) (c0 : Nat) (A1 : Option Addr) (c1 : Nat) (l : List Int) (w : World) (hr0 : Kd.C (Kd.int .u8) w A0 l.length l) (hc0 : l.length ≤ c0) (hr1 : Kd.C (Kd.int .u8) w A1 l.length l) (hc1 : l.length ≤ c1) (hl : l.length ≤ 1000000) :
    Calls Tryd.prog 16 #[.slice A0 l.length c0, .slice A1 l.length c1] w fun e w' => e = .returned (.bool true) ∧ Below w.heap.size w w' :=
  (slices_Equal_byte_byte.calls (l.length + 1) A0 c0 l A1 c1 l true w hr0 hc0 hr1 hc1 (by
    unfold slices_Equal_byte_byte.f
    rw [if_pos rfl]
    exact eqB_go l hl l.length 0 (by omega) _ (by omega))).mono fun e w' ⟨he, hd⟩ => ⟨he, hd.below⟩
end Go.Proofs.YtbgmnmjokdfmlaaDoor.PA
namespace Go.Proofs.YtbgmnmjokdfmlaaDoor.PA
open Go.RowKit Go.Proofs.YtbgmnmjokdfmlaaDoor.G Go.Proofs.YtbgmnmjokdfmlaaDoorW.PrintWords Go.Proofs.YtbgmnmjokdfmlaaDoorW.PrintLast Go.Proofs.YtbgmnmjokdfmlaaDoorW.PrintMore
theorem EqualB_at {n m : Nat} (A0 : Option Addr) (c0 : Nat) (A1 : Option Addr) (c1 : Nat) (l : List Int) (w : World) (hn : l.length = n) (hm : l.length = m) (hr0 : Kd.C (Kd.int .u8) w A0 l.length l) (hc0 : n ≤ c0) (hr1 : Kd.C (Kd.int .u8) w A1 l.length l) (hc1 : m ≤ c1) (hl : l.length ≤ 1000000) :
    Calls Tryd.prog 16 #[.slice A0 n c0, .slice A1 m c1] w fun e w' => e = .returned (.bool true) ∧ Below w.heap.size w w' := by
  subst hn hm
  exact EqualB A0 c0 A1 c1 l w hr0 hc0 hr1 hc1 hl
theorem take200 {A : Option Addr} {b L : List Int} {w : World} (hr : Kd.C (Kd.int .u8) w A b.length b) (hL : b.take 200 = L) : Kd.C (Kd.int .u8) w A L.length L := by
  rw [← hL]
  have := Kd.C_take hr (show (b.take 200).length ≤ b.length by rw [List.length_take]; omega)
  rwa [show b.take (b.take 200).length = b.take 200 from by rw [List.length_take]; rcases Nat.le_total 200 b.length with h | h; rw [Nat.min_eq_left h]; rw [Nat.min_eq_right h, List.take_length, List.take_of_length_le h]] at this
end Go.Proofs.YtbgmnmjokdfmlaaDoor.PA
namespace Go.Proofs.YtbgmnmjokdfmlaaDoor.G
open Go.ChangeShapes Go.WideShapes Go.Deep Go.RowKit Go.Proofs.YtbgmnmjokdfmlaaDoor.PA Go.Proofs.YtbgmnmjokdfmlaaDoorW.PrintWords
theorem mem_weightsAll {H : Type} {P : Program} {e : TypeId} {n : Nat} {x : DataW H} : ∀ {l : List (DataW H)}, x ∈ l → n ∈ DataW.weights P e x → n ∈ DataW.weightsAll P e l
  | y :: r, hx, hn => by
    rw [DataW.weightsAll, List.mem_append]
    rcases List.mem_cons.1 hx with h | h
    · subst h; exact .inl hn
    · exact .inr (mem_weightsAll h hn)
section
variable {H : Type} {enc : TypeId × Value → H} {w : World}
theorem okLs_nil : okLs ([] : List S65) := fun x h => by cases h
theorem ser_labels {n : Nat} {v : Value} {y : DataW H × List MemPlace} (hsz : ∀ m ∈ DataW.weights Tryd.prog 27 y.1, m ≤ reachBytes) (h : DataW.trod enc Tryd.prog w 0 (fun _ => true) true n 27 [v] = some y) :
    ∃ (A : Option Addr) (c : Nat) (l : List S65), v = .slice A l.length c ∧ l.length ≤ c ∧ k65.C w A l.length l ∧ okLs l := by
  rcases open_slice_fields Tryd.underlying27 Tryd.underlying65 (by kernel_rfl) (by kernel_rfl) h with ⟨hcs, _⟩ | ⟨x, l, c, m, D, Pl, hcs, _, hl, hm, hmm, hdx, hi⟩
  · simp only [List.cons.injEq, and_true] at hcs
    exact ⟨none, 0, [], hcs, Nat.le_refl _, ⟨rfl, by simp, fun h => by simp at h⟩, okLs_nil⟩
  · simp only [List.cons.injEq, and_true] at hcs
    subst hcs
    simp only [if_true] at hmm
    subst hmm
    have hd : y.1 = .slice ((List.range l).map D) ((List.range (m - l)).map fun j => D (l + j)) := by rw [hdx]
    obtain ⟨xs, hxl, hxs⟩ := choose_list (fun i (s : S65) => (s.f0.size ≤ 140737488355328 ∧ s.f1.size ≤ 140737488355328) ∧ ∃ cs, cs.length = 2 ∧ k65.K w s cs ∧ ∀ j u, cs[j]? = some u → w.cell? (x.add (i * 2 + j)) = some u) l (fun i hil => by
      obtain ⟨ys, n, hDi, _, _, hfld⟩ := hi i (by omega)
      obtain ⟨v0, y0, c0, hy0, t0⟩ := hfld 0 _ rfl
      obtain ⟨v1, y1, c1, hy1, t1⟩ := hfld 1 _ rfl
      obtain ⟨s0, e0, d0, _⟩ := DataW.trod_string Tryd.underlying9 t0
      obtain ⟨s1, e1, d1, _⟩ := DataW.trod_string Tryd.underlying9 t1
      obtain rfl : v0 = .string s0 := by simpa using e0
      obtain rfl : v1 = .string s1 := by simpa using e1
      have hw : (DataW.weightsEach Tryd.prog [9, 9] (ys.map (·.1))).all (· ≤ reachBytes) = true := by
        rw [List.all_eq_true]
        intro k hk
        have := hsz k (by
          rw [hd, DataW.weights, Tryd.underlying27]
          exact List.mem_cons_of_mem _ (List.mem_append_left _ (mem_weightsAll (List.mem_map.2 ⟨i, List.mem_range.2 hil, rfl⟩) (by rw [hDi, DataW.weights, Tryd.underlying65]; exact hk))))
        exact decide_eq_true this
      have z0 := sized_string (j := 0) hw rfl (bytes := s0.data.toList) (by rw [List.getElem?_map, hy0, d0]; rfl)
      have z1 := sized_string (j := 1) hw rfl (bytes := s1.data.toList) (by rw [List.getElem?_map, hy1, d1]; rfl)
      rw [Array.length_toList] at z0 z1
      have hrb : reachBytes ≤ 140737488355328 := by decide
      refine ⟨⟨s0, s1⟩, ⟨Nat.le_trans z0 hrb, Nat.le_trans z1 hrb⟩, _, rfl, k65_mk w ⟨s0, s1⟩, fun j u hj => ?_⟩
      match j, hj with
      | 0, hj => injection hj with hj; subst hj; exact c0
      | 1, hj => injection hj with hj; subst hj; exact c1
      | n + 2, hj => simp at hj)
    have hmx : maxLen ≤ 9223372036854775807 := by decide
    refine ⟨some x, m, xs, by rw [hxl], by omega, ⟨rfl, by rw [hxl]; omega, fun _ => ⟨x, rfl, fun j p hj => ?_⟩⟩, fun s hs => ?_⟩
    · obtain ⟨_, cs, h1, h2, h3⟩ := hxs j p hj
      exact ⟨cs, h1, h2, h3⟩
    · obtain ⟨j, hj⟩ := List.getElem?_of_mem hs
      exact (hxs j s hj).1
theorem ser_samples {n : Nat} {v : Value} {y : DataW H × List MemPlace} (h : DataW.trod enc Tryd.prog w 0 (fun _ => true) true n 30 [v] = some y) :
    ∃ (A : Option Addr) (c : Nat) (l : List S54), v = .slice A l.length c ∧ l.length ≤ c ∧ k54.C w A l.length l ∧ ∀ x ∈ l, okS x := by
  have hv : ∃ a len cap, v = .slice a len cap := by
    rcases open_slice_fields Tryd.underlying30 Tryd.underlying54 (by kernel_rfl) (by kernel_rfl) h with ⟨hcs, _⟩ | ⟨x, l, c, m, D, Pl, hcs, _⟩
    · simp only [List.cons.injEq, and_true] at hcs
      exact ⟨_, _, _, hcs⟩
    · simp only [List.cons.injEq, and_true] at hcs
      exact ⟨_, _, _, hcs⟩
  have hT : DataW.Trod enc Tryd.prog w 0 (fun _ => true) true 30 v y.1 y.2 := by
    obtain ⟨a, len, cap, rfl⟩ := hv
    exact ⟨n, h⟩
  obtain ⟨A, c, l, h1, h2, h3, h4⟩ := open_rows30 hv hT
  exact ⟨A, c, l, h1, h3, h2, h4⟩
theorem open_rowsS38 {v : Value} {d : DataW H} {p : List MemPlace} (hv : ∃ a len cap, v = .slice a len cap) {ts : List TypeId} {ds : List (DataW H)} (hsz : (DataW.weightsEach Tryd.prog (38 :: ts) (d :: ds)).all (· ≤ reachBytes) = true) (h : DataW.Trod enc Tryd.prog w 0 (fun _ => true) true 38 v d p) :
    ∃ (A : Option Addr) (c : Nat) (l : List S60), v = .slice A l.length c ∧ k60.C w A l.length l ∧ l.length ≤ c ∧ okW l ∧ l.length * 48 ≤ 140737488355328 := by
  obtain ⟨a, len, cap, rfl⟩ := hv
  obtain ⟨fuel, hf⟩ := h
  rcases open_slice_fields Tryd.underlying38 Tryd.underlying60 (by kernel_rfl) (by kernel_rfl) hf with ⟨hcs, _⟩ | ⟨x, l, c, m, D, Pl, hcs, _, hl, hm, hmm, hdx, hi⟩
  · simp [Value.cells] at hcs
    obtain ⟨rfl, rfl, rfl⟩ := hcs
    exact ⟨none, 0, [], rfl, ⟨rfl, by simp, fun h => by simp at h⟩, Nat.le_refl _, (fun x hx => by cases hx), by simp⟩
  · simp [Value.cells] at hcs
    obtain ⟨rfl, rfl, rfl⟩ := hcs
    simp only [if_true] at hmm
    subst hmm
    have hd : d = .slice ((List.range len).map D) ((List.range (m - len)).map fun j => D (len + j)) := (Prod.mk.inj hdx).1
    have hall : ∀ k ∈ DataW.weights Tryd.prog 38 d, k ≤ reachBytes := fun k hk => by
      have := List.all_eq_true.1 hsz k (by rw [DataW.weightsEach, List.mem_append]; exact .inl hk)
      exact of_decide_eq_true this
    have h48 := hall ((((List.range len).map D).length + ((List.range (m - len)).map fun j => D (len + j)).length) * Tryd.prog.bytesOf 60) (by rw [hd, DataW.weights, Tryd.underlying38]; exact List.mem_cons_self ..)
    obtain ⟨xs, hxl, hxs⟩ := choose_list (fun i (s : S60) => (okLs s.f0 ∧ ∀ q ∈ s.f1, okS q) ∧ ∃ cs, cs.length = 2 ∧ k60.K w s cs ∧ ∀ j u, cs[j]? = some u → w.cell? (x.add (i * 2 + j)) = some u) len (fun i hil => by
      obtain ⟨ys, n, hDi, _, _, hfld⟩ := hi i (by omega)
      obtain ⟨v0, y0, c0, hy0, t0⟩ := hfld 0 _ rfl
      obtain ⟨v1, y1, c1, hy1, t1⟩ := hfld 1 _ rfl
      obtain ⟨A0, q0, l0, rfl, hq0, hC0, hw0⟩ := ser_labels (fun k hk => hall k (by
        rw [hd, DataW.weights, Tryd.underlying38]
        refine List.mem_cons_of_mem _ (List.mem_append_left _ (mem_weightsAll (List.mem_map.2 ⟨i, List.mem_range.2 hil, rfl⟩) ?_))
        rw [hDi, DataW.weights, Tryd.underlying60]
        exact DataW.weights_mem_each (j := 0) (ts := [27, 30]) rfl (by rw [List.getElem?_map, hy0]; rfl) k hk)) t0
      obtain ⟨A1, q1, l1, rfl, hq1, hC1, hw1⟩ := ser_samples t1
      refine ⟨⟨l0, l1⟩, ⟨hw0, hw1⟩, _, rfl, k60_mk w ⟨l0, l1⟩ hq0 hC0 hq1 hC1, fun j u hj => ?_⟩
      match j, hj with
      | 0, hj => injection hj with hj; subst hj; exact c0
      | 1, hj => injection hj with hj; subst hj; exact c1
      | n + 2, hj => simp at hj)
    have hmx : maxLen ≤ 9223372036854775807 := by decide
    have hbo : Tryd.prog.bytesOf 60 = 48 := by kernel_rfl
    have hrb : reachBytes ≤ 140737488355328 := by decide
    refine ⟨some x, m, xs, by rw [hxl], ⟨rfl, by rw [hxl]; omega, fun _ => ⟨x, rfl, fun j p hj => ?_⟩⟩, by omega, fun s hs => ?_, ?_⟩
    · obtain ⟨_, cs, h1, h2, h3⟩ := hxs j p hj
      exact ⟨cs, h1, h2, h3⟩
    · obtain ⟨j, hj⟩ := List.getElem?_of_mem hs
      exact (hxs j s hj).1
    · rw [hbo] at h48
      simp only [List.length_map, List.length_range] at h48
      rw [hxl]
      omega
end
end Go.Proofs.YtbgmnmjokdfmlaaDoor.G

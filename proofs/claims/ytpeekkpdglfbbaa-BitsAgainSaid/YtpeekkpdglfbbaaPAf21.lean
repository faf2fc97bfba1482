-- written by wip/gprint.py of this session (it runs the print of the guide's kit over contracts of the session)
import Derived.Test.YtpeekkpdglfbbaaPA0
import Derived.Test.YtpeekkpdglfbbaaPAf24
import Derived.Test.YtpeekkpdglfbbaaPAf27
import Derived.Test.YtpeekkpdglfbbaaPAf30
namespace Go.Proofs.Ytpeekkpdglfbbaa.PA
open Go.RowKit Go.Proofs.YtpeekkpdglfbbaaW.PrintWords Go.Proofs.YtpeekkpdglfbbaaW.PrintLast Go.Proofs.YtpeekkpdglfbbaaW.PrintMore
attribute [local go_sem] max2_int min2_int max_two min_two max_three min_three max_four min_four   -- for this text's walks alone
set_option linter.unusedVariables false
set_option linter.unusedSimpArgs false

/-! ### dryrotref02_TakeInt: function 21 -/
mutual
def dryrotref02_TakeInt.j0 : Nat → Int → List Bool → Bool → Option (Int × Int × Int)
  | 0, _, _, _ => none
  | k + 1, x1, x7, x30 => if x30 = true then (some (0, 0, 1)) else (dryrotref02_TakeInt.l0 k x1 x7 0)
def dryrotref02_TakeInt.j2 : Nat → Int → List Bool → Int → Option (Int × Int × Int)
  | 0, _, _, _ => none
  | k + 1, x1, x7, x9 => if x9 < 4 then (if x1 ≥ (x7.length : Int) then (some (0, 0, 3)) else (dryrotref02_TakeInt.j3 k (wrap64 (x1 + 1)) x7 x9)) else (dryrotref02_TakeInt.j3 k x1 x7 x9)
def dryrotref02_TakeInt.j3 : Nat → Int → List Bool → Int → Option (Int × Int × Int)
  | 0, _, _, _ => none
  | k + 1, x1, x7, x9 => (some (([0, 7, 12, 32, 64] : List Int) : List Int)).bind fun y239 => (if 0 ≤ x9 then (if x9 < (y239.length : Int) then (if (wrap64 ((x7.length : Int) - x1)) < (rd y239 x9) then (some (0, 0, 3)) else ((dryrotref02_take.f k x7 x1 (rd y239 x9)).bind fun t243 => (if (rd y239 x9) > 0 then (if (rd y239 x9) < 64 then (if 0 ≤ x1 then (if x1 < (x7.length : Int) then (dryrotref02_TakeInt.j4 k x1 x9 (rd y239 x9) (wrap64 (t243)) (rdOf false x7 x1)) else (none)) else (none)) else (dryrotref02_TakeInt.j4 k x1 x9 (rd y239 x9) (wrap64 (t243)) false)) else (dryrotref02_TakeInt.j4 k x1 x9 (rd y239 x9) (wrap64 (t243)) false)))) else (none)) else (none))
def dryrotref02_TakeInt.j4 : Nat → Int → Int → Int → Int → Bool → Option (Int × Int × Int)
  | 0, _, _, _, _, _ => none
  | k + 1, x1, x9, x10, x11, x83 => if x83 = true then (if 0 ≤ x10 then ((dryrotref02_class.f k (wrap64 (x11 - (shl .i64 1 x10)))).bind fun bt245 => (if bt245.1 = x9 then (some (wrap64 (x11 - (shl .i64 1 x10)), wrap64 (x1 + x10), 0)) else (some (0, 0, 5)))) else (none)) else ((dryrotref02_class.f k x11).bind fun bt247 => (if bt247.1 = x9 then (some (x11, wrap64 (x1 + x10), 0)) else (some (0, 0, 5))))
def dryrotref02_TakeInt.l0 : Nat → Int → List Bool → Int → Option (Int × Int × Int)
  | 0, _, _, _ => none
  | k + 1, x1, x7, x9 => if x9 < 4 then (if x1 < (x7.length : Int) then (if 0 ≤ x1 then (if rdOf false x7 x1 = true then (dryrotref02_TakeInt.l0 k (wrap64 (x1 + 1)) x7 (wrap64 (x9 + 1))) else (dryrotref02_TakeInt.j2 k x1 x7 x9)) else (none)) else (dryrotref02_TakeInt.j2 k x1 x7 x9)) else (dryrotref02_TakeInt.j2 k x1 x7 x9)
end
def dryrotref02_TakeInt.f (k : Nat) (l0_0 : List Int) (a0_1 : Int) (a1 : Int) : Option (Int × Int × Int) := (dryrotref02_list.f k l0_0 a0_1).bind fun bt234 => (if bt234.2 = true then (if a1 < 0 then (dryrotref02_TakeInt.j0 k a1 bt234.1 true) else (dryrotref02_TakeInt.j0 k a1 bt234.1 (decide (a1 > (bt234.1.length : Int))))) else (dryrotref02_TakeInt.j0 k a1 bt234.1 true))
theorem dryrotref02_TakeInt.mono_l : ∀ k, (∀ y0 y1 y2, LeO (dryrotref02_TakeInt.j0 k y0 y1 y2) (dryrotref02_TakeInt.j0 (k + 1) y0 y1 y2)) ∧ (∀ y0 y1 y2, LeO (dryrotref02_TakeInt.j2 k y0 y1 y2) (dryrotref02_TakeInt.j2 (k + 1) y0 y1 y2)) ∧ (∀ y0 y1 y2, LeO (dryrotref02_TakeInt.j3 k y0 y1 y2) (dryrotref02_TakeInt.j3 (k + 1) y0 y1 y2)) ∧ (∀ y0 y1 y2 y3 y4, LeO (dryrotref02_TakeInt.j4 k y0 y1 y2 y3 y4) (dryrotref02_TakeInt.j4 (k + 1) y0 y1 y2 y3 y4)) ∧ (∀ y0 y1 y2, LeO (dryrotref02_TakeInt.l0 k y0 y1 y2) (dryrotref02_TakeInt.l0 (k + 1) y0 y1 y2))
  | 0 => ⟨fun _ _ _ r h => by simp [dryrotref02_TakeInt.j0] at h, fun _ _ _ r h => by simp [dryrotref02_TakeInt.j2] at h, fun _ _ _ r h => by simp [dryrotref02_TakeInt.j3] at h, fun _ _ _ _ _ r h => by simp [dryrotref02_TakeInt.j4] at h, fun _ _ _ r h => by simp [dryrotref02_TakeInt.l0] at h⟩
  | k + 1 => by
    obtain ⟨ih0, ih1, ih2, ih3, ih4⟩ := dryrotref02_TakeInt.mono_l k
    refine ⟨?_, ?_, ?_, ?_, ?_⟩
    · intro y0 y1 y2
      unfold dryrotref02_TakeInt.j0
      repeat' first
      | (with_reducible exact ih0 _ _ _)
      | (with_reducible exact ih1 _ _ _)
      | (with_reducible exact ih2 _ _ _)
      | (with_reducible exact ih3 _ _ _ _ _)
      | (with_reducible exact ih4 _ _ _)
      | (with_reducible exact dryrotref02_class.mono _ _)
      | (with_reducible exact dryrotref02_list.mono _ _ _)
      | (with_reducible exact dryrotref02_take.mono _ _ _ _)
      | (with_reducible exact LeO.refl _)
      | (with_reducible exact LeO.none _)
      | (with_reducible refine LeO.ite ?_ ?_)
      | (with_reducible refine LeO.bind ?_ (fun _ => ?_))
      | exact ih0 _ _ _
      | exact ih1 _ _ _
      | exact ih2 _ _ _
      | exact ih3 _ _ _ _ _
      | exact ih4 _ _ _
      | exact dryrotref02_class.mono _ _
      | exact dryrotref02_list.mono _ _ _
      | exact dryrotref02_take.mono _ _ _ _
      | exact LeO.none _
      | refine LeO.ite ?_ ?_
      | refine LeO.bind ?_ (fun _ => ?_)
    · intro y0 y1 y2
      unfold dryrotref02_TakeInt.j2
      repeat' first
      | (with_reducible exact ih0 _ _ _)
      | (with_reducible exact ih1 _ _ _)
      | (with_reducible exact ih2 _ _ _)
      | (with_reducible exact ih3 _ _ _ _ _)
      | (with_reducible exact ih4 _ _ _)
      | (with_reducible exact dryrotref02_class.mono _ _)
      | (with_reducible exact dryrotref02_list.mono _ _ _)
      | (with_reducible exact dryrotref02_take.mono _ _ _ _)
      | (with_reducible exact LeO.refl _)
      | (with_reducible exact LeO.none _)
      | (with_reducible refine LeO.ite ?_ ?_)
      | (with_reducible refine LeO.bind ?_ (fun _ => ?_))
      | exact ih0 _ _ _
      | exact ih1 _ _ _
      | exact ih2 _ _ _
      | exact ih3 _ _ _ _ _
      | exact ih4 _ _ _
      | exact dryrotref02_class.mono _ _
      | exact dryrotref02_list.mono _ _ _
      | exact dryrotref02_take.mono _ _ _ _
      | exact LeO.none _
      | refine LeO.ite ?_ ?_
      | refine LeO.bind ?_ (fun _ => ?_)
    · intro y0 y1 y2
      unfold dryrotref02_TakeInt.j3
      repeat' first
      | (with_reducible exact ih0 _ _ _)
      | (with_reducible exact ih1 _ _ _)
      | (with_reducible exact ih2 _ _ _)
      | (with_reducible exact ih3 _ _ _ _ _)
      | (with_reducible exact ih4 _ _ _)
      | (with_reducible exact dryrotref02_class.mono _ _)
      | (with_reducible exact dryrotref02_list.mono _ _ _)
      | (with_reducible exact dryrotref02_take.mono _ _ _ _)
      | (with_reducible exact LeO.refl _)
      | (with_reducible exact LeO.none _)
      | (with_reducible refine LeO.ite ?_ ?_)
      | (with_reducible refine LeO.bind ?_ (fun _ => ?_))
      | exact ih0 _ _ _
      | exact ih1 _ _ _
      | exact ih2 _ _ _
      | exact ih3 _ _ _ _ _
      | exact ih4 _ _ _
      | exact dryrotref02_class.mono _ _
      | exact dryrotref02_list.mono _ _ _
      | exact dryrotref02_take.mono _ _ _ _
      | exact LeO.none _
      | refine LeO.ite ?_ ?_
      | refine LeO.bind ?_ (fun _ => ?_)
    · intro y0 y1 y2 y3 y4
      unfold dryrotref02_TakeInt.j4
      repeat' first
      | (with_reducible exact ih0 _ _ _)
      | (with_reducible exact ih1 _ _ _)
      | (with_reducible exact ih2 _ _ _)
      | (with_reducible exact ih3 _ _ _ _ _)
      | (with_reducible exact ih4 _ _ _)
      | (with_reducible exact dryrotref02_class.mono _ _)
      | (with_reducible exact dryrotref02_list.mono _ _ _)
      | (with_reducible exact dryrotref02_take.mono _ _ _ _)
      | (with_reducible exact LeO.refl _)
      | (with_reducible exact LeO.none _)
      | (with_reducible refine LeO.ite ?_ ?_)
      | (with_reducible refine LeO.bind ?_ (fun _ => ?_))
      | exact ih0 _ _ _
      | exact ih1 _ _ _
      | exact ih2 _ _ _
      | exact ih3 _ _ _ _ _
      | exact ih4 _ _ _
      | exact dryrotref02_class.mono _ _
      | exact dryrotref02_list.mono _ _ _
      | exact dryrotref02_take.mono _ _ _ _
      | exact LeO.none _
      | refine LeO.ite ?_ ?_
      | refine LeO.bind ?_ (fun _ => ?_)
    · intro y0 y1 y2
      unfold dryrotref02_TakeInt.l0
      repeat' first
      | (with_reducible exact ih0 _ _ _)
      | (with_reducible exact ih1 _ _ _)
      | (with_reducible exact ih2 _ _ _)
      | (with_reducible exact ih3 _ _ _ _ _)
      | (with_reducible exact ih4 _ _ _)
      | (with_reducible exact dryrotref02_class.mono _ _)
      | (with_reducible exact dryrotref02_list.mono _ _ _)
      | (with_reducible exact dryrotref02_take.mono _ _ _ _)
      | (with_reducible exact LeO.refl _)
      | (with_reducible exact LeO.none _)
      | (with_reducible refine LeO.ite ?_ ?_)
      | (with_reducible refine LeO.bind ?_ (fun _ => ?_))
      | exact ih0 _ _ _
      | exact ih1 _ _ _
      | exact ih2 _ _ _
      | exact ih3 _ _ _ _ _
      | exact ih4 _ _ _
      | exact dryrotref02_class.mono _ _
      | exact dryrotref02_list.mono _ _ _
      | exact dryrotref02_take.mono _ _ _ _
      | exact LeO.none _
      | refine LeO.ite ?_ ?_
      | refine LeO.bind ?_ (fun _ => ?_)
theorem dryrotref02_TakeInt.mono : ∀ a0 a1 a2 k, LeO (dryrotref02_TakeInt.f k a0 a1 a2) (dryrotref02_TakeInt.f (k + 1) a0 a1 a2) := by
  intro a0 a1 a2 k
  obtain ⟨ih0, ih1, ih2, ih3, ih4⟩ := dryrotref02_TakeInt.mono_l k
  unfold dryrotref02_TakeInt.f
  repeat' first
      | (with_reducible exact ih0 _ _ _)
      | (with_reducible exact ih1 _ _ _)
      | (with_reducible exact ih2 _ _ _)
      | (with_reducible exact ih3 _ _ _ _ _)
      | (with_reducible exact ih4 _ _ _)
      | (with_reducible exact dryrotref02_class.mono _ _)
      | (with_reducible exact dryrotref02_list.mono _ _ _)
      | (with_reducible exact dryrotref02_take.mono _ _ _ _)
      | (with_reducible exact LeO.refl _)
      | (with_reducible exact LeO.none _)
      | (with_reducible refine LeO.ite ?_ ?_)
      | (with_reducible refine LeO.bind ?_ (fun _ => ?_))
      | exact ih0 _ _ _
      | exact ih1 _ _ _
      | exact ih2 _ _ _
      | exact ih3 _ _ _ _ _
      | exact ih4 _ _ _
      | exact dryrotref02_class.mono _ _
      | exact dryrotref02_list.mono _ _ _
      | exact dryrotref02_take.mono _ _ _ _
      | exact LeO.none _
      | refine LeO.ite ?_ ?_
      | refine LeO.bind ?_ (fun _ => ?_)
set_option maxHeartbeats 8000000 in
set_option maxRecDepth 100000 in
theorem dryrotref02_TakeInt.calls (k : Nat) (A0_0 : Option Addr) (c0_0 : Nat) (l0_0 : List Int) (a0_1 : Int) (a1 : Int) (r1 : Int) (r2 : Int) (r3 : Int) (w : World) (hr0_0 : Kd.C (Kd.int .u8) w A0_0 l0_0.length l0_0) (hc0_0 : l0_0.length ≤ c0_0) (h : dryrotref02_TakeInt.f k l0_0 a0_1 a1 = some (r1, r2, r3)) :
    Calls Try.prog 21 #[.agg #[.slice A0_0 l0_0.length c0_0, .int .i64 a0_1], .int .i64 a1] w fun e w' => e = .returned (.tuple #[.int .i64 r1, .int .i64 r2, .int .i64 r3]) ∧ Below w.heap.size w w' := by
  have hu24 := Try.underlying24
  have HR0_0 := Aside0.mk hr0_0
  have HC0_0 := Aside0.mk hc0_0
  clear hr0_0 hc0_0
  have HB := Aside0.mk (Below.refl w.heap.size w)
  have H : ((dryrotref02_list.f k l0_0 a0_1).bind fun bt234 => (if bt234.2 = true then (if a1 < 0 then (dryrotref02_TakeInt.j0 k a1 bt234.1 true) else (dryrotref02_TakeInt.j0 k a1 bt234.1 (decide (a1 > (bt234.1.length : Int))))) else (dryrotref02_TakeInt.j0 k a1 bt234.1 true))) = some (r1, r2, r3) := h
  clear h
  replace H := Option.bind_eq_some_iff.mp H
  obtain ⟨⟨t234, t237⟩, A30, H⟩ := H
  replace H : (if t237 = true then (if a1 < 0 then (dryrotref02_TakeInt.j0 k a1 t234 true) else (dryrotref02_TakeInt.j0 k a1 t234 (decide (a1 > (t234.length : Int))))) else (dryrotref02_TakeInt.j0 k a1 t234 true)) = some (r1, r2, r3) := H
  have A3 := Aside0.mk A30
  clear A30
  have HC4 := Aside0.mk H
  clear H
  go_enter Try.func21, Try.ntmps21
  go_upto_region 2 with (first | ((with_reducible refine gate_dst (N := 2) rfl ?_); (try (refine gate_guard (by rfl) ?_; dsimp only)); refine box_event ?hg (N := 2) ?hd (cs := #[.slice A0_0 l0_0.length c0_0, .int .i64 a0_1]) (t := 24) ?hr ?_; (case hd => rfl); (case hg => rfl); (case hr => first | (go_simp; done) | (go_simp; rfl)); intro gb233 hg w5 hbox hb; have n0_ := Aside0.mk (below_step (by repeat (first | (with_reducible first | exact HB.out | apply below_alloc | apply pw_below_drewN | apply below_drew1) | exact HB.out)) hb); have n1_ := Aside0.mk (hbox); have n2_ := Aside0.mk ((by rw [hg]; exact (below_size (by repeat (first | (with_reducible first | exact HB.out | apply below_alloc | apply pw_below_drewN | apply below_drew1) | exact HB.out))) : w.heap.size ≤ gb233)); have n3_ := Aside0.mk ((by rw [hg]; exact (below_size (by repeat (first | (with_reducible first | exact HB.out | apply below_alloc | apply pw_below_drewN | apply below_drew1) | exact HB.out))) : w.heap.size ≤ gb233)); clear HB; have HB := n0_; have BK233 := n1_; have GW233 := n2_; have GE233 := n3_; clear n0_ n1_ n2_ n3_; clear hb hbox hg; have hcz6_0 : w5.cell? ⟨gb233, 0, none⟩ = some (.slice A0_0 l0_0.length c0_0) := (blk_cell BK233.out 0).trans rfl; have hcz6_1 : w5.cell? ⟨gb233, 1, none⟩ = some (.int .i64 a0_1) := (blk_cell BK233.out 1).trans rfl; have hfz6_0 := blk_frozen BK233.out 0; have hfz6_1 := blk_frozen BK233.out 1) | ((with_reducible refine gate_callee (f := 24) rfl ?_); refine goesL_ (some 16) rfl rfl Try.func24 (by kernel_rfl) rfl #[.agg #[.slice A0_0 l0_0.length c0_0, .int .i64 a0_1]] rfl (by (try simp only [List.map_toArray, List.map_cons, List.map_nil]); first | done | rfl | (simp only [List.length_drop, List.length_take]; rfl)) ?_; (with_reducible refine (dryrotref02_list.calls k _ _ l0_0 a0_1 t234 t237 _ ?side1 ?side2 A3.out).mono ?_); (case side1 => repeat (first | exact (Kd.C_below HR0_0.out HB.out) | (with_reducible refine Kd.C_alloc ?_ _) | (with_reducible refine Kd.C_drewN ?_ _) | (with_reducible refine Kd.C_drew ?_))); (case side2 => exact HC0_0.out); rintro e w7 ⟨v235, rfl, ho0, hb⟩; refine ⟨_, rfl, ?_⟩; have n0_ := Aside0.mk (Kd.R_lower ho0 (below_size (by repeat (first | (with_reducible first | exact HB.out | apply below_alloc | apply pw_below_drewN | apply below_drew1 | refine below_set ?_ GE233.out) | exact HB.out)))); have n1_ := Aside0.mk (blk_below (g := gb233) (o := .cells #[.slice A0_0 l0_0.length c0_0, .int .i64 a0_1] 24 (0, 0)) (by (with_reducible repeat (first | refine blk_drewN ?_ _ | refine blk_drew ?_ | refine blk_alloc ?_ _)); exact BK233.out) hb); have n2_ := Aside0.mk (below_step (by repeat (first | (with_reducible first | exact HB.out | apply below_alloc | apply pw_below_drewN | apply below_drew1 | refine below_set ?_ GE233.out) | exact HB.out)) hb); clear BK233; clear HB; have HO236 := n0_; have BK233 := n1_; have HB := n2_; clear n0_ n1_ n2_; (try clear hb); (try clear hb2); (try clear hk); (try clear hi); (try clear ho0)))
  (try simp only [Act.put, List.setIfInBounds_toArray, List.set_cons_zero, List.set_cons_succ])
  go_cut [30] (fun v30 wc => ∃ (kq : Nat) (x30_3 : Bool), v30 = .bool x30_3 ∧ Aside0 (dryrotref02_TakeInt.j0 kq a1 t234 x30_3 = some (r1, r2, r3)) ∧ Aside0 (kq ≤ k) ∧ Aside0 (Kd.R Kd.bool 4 wc w.heap.size (fun _ => True) v235 t234) ∧ Aside0 (wc.heap[gb233]? = some (.cells #[(.slice A0_0 l0_0.length c0_0), .int .i64 a0_1] 24 (0, 0))) ∧ Aside0 (Below w.heap.size w wc))
  case first =>
    have H := HC4.out
    clear HC4
    by_cases c8 : t237 = true
    · subst c8
      have H1 : (if a1 < 0 then (dryrotref02_TakeInt.j0 k a1 t234 true) else (dryrotref02_TakeInt.j0 k a1 t234 (decide (a1 > (t234.length : Int))))) = some (r1, r2, r3) := by rw [if_pos rfl] at H; exact H
      clear H
      have H := H1
      clear H1
      by_cases c9 : a1 < 0
      · rw [if_pos c9] at H
        have c9b0 : decide (a1 < 0) = true := decide_eq_true c9
        clear c9
        (first | rw [c9b0] | (simp only [i64_w, i32_w]; rw [c9b0]) | skip)
        have H' := Aside0.mk H
        clear H
        go_wp2
        go_meet
        case rel => exact ⟨_, (true), (by first | rfl | (simp; done) | (simp [*]; done)), H', ⟨by first | omega | exact Nat.le_refl _⟩, ⟨by (with_reducible repeat (first | apply Kd.R_alloc | apply Kd.R_drewN | apply Kd.R_drew)); exact HO236.out⟩, ⟨by (with_reducible repeat (first | refine blk_drewN ?_ _ | refine blk_drew ?_ | refine blk_alloc ?_ _)); exact BK233.out⟩, ⟨by repeat (first | (with_reducible first | exact HB.out | apply below_alloc | apply pw_below_drewN | apply below_drew1 | refine below_set ?_ GE233.out) | exact HB.out)⟩⟩
      · rw [if_neg c9] at H
        have c9b0 : decide (a1 < 0) = false := decide_eq_false c9
        clear c9
        (first | rw [c9b0] | (simp only [i64_w, i32_w]; rw [c9b0]) | skip)
        have H' := Aside0.mk H
        clear H
        obtain ⟨Ao10, co10, eo10⟩ := Kd.R_slice HO236.out
        subst eo10
        go_wp2
        go_meet
        case rel => exact ⟨_, (decide (a1 > (t234.length : Int))), (by first | rfl | (simp; done) | (simp [*]; done)), H', ⟨by first | omega | exact Nat.le_refl _⟩, ⟨by (with_reducible repeat (first | apply Kd.R_alloc | apply Kd.R_drewN | apply Kd.R_drew)); exact HO236.out⟩, ⟨by (with_reducible repeat (first | refine blk_drewN ?_ _ | refine blk_drew ?_ | refine blk_alloc ?_ _)); exact BK233.out⟩, ⟨by repeat (first | (with_reducible first | exact HB.out | apply below_alloc | apply pw_below_drewN | apply below_drew1 | refine below_set ?_ GE233.out) | exact HB.out)⟩⟩
    · replace c8 := Bool.eq_false_iff.mpr c8
      subst c8
      have H1 : (dryrotref02_TakeInt.j0 k a1 t234 true) = some (r1, r2, r3) := by rw [if_neg (show ¬ (false = true) by decide)] at H; exact H
      clear H
      have H := H1
      clear H1
      have H' := Aside0.mk H
      clear H
      go_wp2
      go_meet
      case rel => exact ⟨_, (true), (by first | rfl | (simp; done) | (simp [*]; done)), H', ⟨by first | omega | exact Nat.le_refl _⟩, ⟨by (with_reducible repeat (first | apply Kd.R_alloc | apply Kd.R_drewN | apply Kd.R_drew)); exact HO236.out⟩, ⟨by (with_reducible repeat (first | refine blk_drewN ?_ _ | refine blk_drew ?_ | refine blk_alloc ?_ _)); exact BK233.out⟩, ⟨by repeat (first | (with_reducible first | exact HB.out | apply below_alloc | apply pw_below_drewN | apply below_drew1 | refine below_set ?_ GE233.out) | exact HB.out)⟩⟩
  case rest =>
    clear HC4
    try clear c2
    try clear p2
    try clear c8
    try clear c9
    try clear c9b0
    try clear hcz6_0
    try clear hcz6_1
    try clear hfz6_0
    try clear hfz6_1
    obtain ⟨kq, x30_3, rfl, HA, HJ3, HO_7, BK233, HB⟩ := hcut
    cases kq with
    | zero => exact absurd HA.out (by simp [dryrotref02_TakeInt.j0])
    | succ kj3 =>
      have H := HA.out
      clear HA
      simp only [dryrotref02_TakeInt.j0] at H
      by_cases c11 : x30_3 = true
      · subst c11
        have H1 : (some (0, 0, 1)) = some (r1, r2, r3) := by rw [if_pos rfl] at H; exact H
        clear H
        have H := H1
        clear H1
        simp only [Option.some.injEq, Prod.mk.injEq] at H
        obtain ⟨rfl, rfl, rfl⟩ := H
        go_wp2
        go_ret3
        exact ⟨by first | rfl | (simp [errW_none, errW_some] <;> rfl) | (simp [*, errW_none, errW_some] <;> rfl), by repeat (first | (with_reducible first | exact HB.out | apply below_alloc | apply pw_below_drewN | apply below_drew1 | refine below_set ?_ GE233.out) | exact HB.out)⟩
      · replace c11 := Bool.eq_false_iff.mpr c11
        subst c11
        have H1 : (dryrotref02_TakeInt.l0 kj3 a1 t234 0) = some (r1, r2, r3) := by rw [if_neg (show ¬ (false = true) by decide)] at H; exact H
        clear H
        have H := H1
        clear H1
        have HC12 := Aside0.mk H
        clear H
        go_upto_block 0 with (fail)
        go_cut [1, 9] (fun v1 v9 wc => ∃ (kq : Nat) (x1_11 : Int) (x9_11 : Int), v1 = .int .i64 x1_11 ∧ v9 = .int .i64 x9_11 ∧ Aside0 (dryrotref02_TakeInt.j2 kq x1_11 t234 x9_11 = some (r1, r2, r3)) ∧ Aside0 (kq ≤ kj3) ∧ Aside0 (Kd.R Kd.bool 4 wc w.heap.size (fun _ => True) v235 t234) ∧ Aside0 (wc.heap[gb233]? = some (.cells #[(.slice A0_0 l0_0.length c0_0), .int .i64 a0_1] 24 (0, 0))) ∧ Aside0 (Below w.heap.size w wc))
        case first =>
          have H := HC12.out
          clear HC12
          have H' := Aside0.mk H
          clear H
          go_wp2
          go_loopg [1, 9] kj3 (fun kq v1 v9 w' => ∃ (x1_2 : Int) (x9_2 : Int), v1 = .int .i64 x1_2 ∧ v9 = .int .i64 x9_2 ∧ Aside0 (dryrotref02_TakeInt.l0 kq x1_2 t234 x9_2 = some (r1, r2, r3)) ∧ Aside0 (kq ≤ kj3) ∧ Aside0 (Kd.R Kd.bool 4 w' w.heap.size (fun _ => True) v235 t234) ∧ Aside0 (w'.heap[gb233]? = some (.cells #[(.slice A0_0 l0_0.length c0_0), .int .i64 a0_1] 24 (0, 0))) ∧ Aside0 (Below w.heap.size w w'))
          case atStart => exact ⟨(a1), (0), (by first | rfl | (simp; done) | (simp [*]; done)), (by first | rfl | (simp; done) | (simp [*]; done)), H', ⟨Nat.le_refl _⟩, ⟨by (with_reducible repeat (first | apply Kd.R_alloc | apply Kd.R_drewN | apply Kd.R_drew)); exact HO_7.out⟩, ⟨by (with_reducible repeat (first | refine blk_drewN ?_ _ | refine blk_drew ?_ | refine blk_alloc ?_ _)); exact BK233.out⟩, ⟨by repeat (first | (with_reducible first | exact HB.out | apply below_alloc | apply pw_below_drewN | apply below_drew1 | refine below_set ?_ GE233.out) | exact HB.out)⟩⟩
          case round =>
            clear H'
            try clear c1
            try clear c2
            try clear p2
            try clear c8
            try clear c9
            try clear c9b0
            try clear c11
            try clear hcz6_0
            try clear hcz6_1
            try clear hfz6_0
            try clear hfz6_1
            try clear p2
            obtain ⟨x1_2, x9_2, rfl, rfl, HA, HK2, HO_7, BK233, HB⟩ := hrel
            cases gk with
            | zero => exact absurd HA.out (by simp [dryrotref02_TakeInt.l0])
            | succ k2 =>
              have H := HA.out
              clear HA
              simp only [dryrotref02_TakeInt.l0] at H
              by_cases c13 : x9_2 < 4
              · rw [if_pos c13] at H
                have c13b0 : decide (x9_2 < 4) = true := decide_eq_true c13
                clear c13
                (first | rw [c13b0] | (simp only [i64_w, i32_w]; rw [c13b0]) | skip)
                by_cases c14 : x1_2 < (t234.length : Int)
                · rw [if_pos c14] at H
                  have c14b0 : decide (x1_2 < (t234.length : Int)) = true := decide_eq_true c14
                  clear c14
                  by_cases c15 : 0 ≤ x1_2
                  · rw [if_pos c15] at H
                    have c15b0 : decide (0 ≤ x1_2) = true := decide_eq_true c15
                    clear c15
                    obtain ⟨bq16, hbq16⟩ : ∃ b_ : Bool, b_ = (rdOf false t234 x1_2) := ⟨_, rfl⟩
                    replace H : (if bq16 = true then (dryrotref02_TakeInt.l0 k2 (wrap64 (x1_2 + 1)) t234 (wrap64 (x9_2 + 1))) else (dryrotref02_TakeInt.j2 k2 x1_2 t234 x9_2)) = some (r1, r2, r3) := by rw [← hbq16] at H; exact H
                    have Nbq16 := Aside0.mk hbq16
                    clear hbq16
                    by_cases c17 : bq16 = true
                    · subst c17
                      have H1 : (dryrotref02_TakeInt.l0 k2 (wrap64 (x1_2 + 1)) t234 (wrap64 (x9_2 + 1))) = some (r1, r2, r3) := by rw [if_pos rfl] at H; exact H
                      clear H
                      have H := H1
                      clear H1
                      have H' := Aside0.mk H
                      clear H
                      obtain ⟨Ao18, co18, eo18⟩ := Kd.R_slice HO_7.out
                      subst eo18
                      have p238 : 0 ≤ (x1_2 : Int) := of_decide_eq_true (by first | (with_reducible assumption) | assumption)
                      have q238 : x1_2 < (t234.length : Int) := of_decide_eq_true (by first | (with_reducible assumption) | assumption)
                      obtain ⟨ad238, e238, hx238_0⟩ := Kd.at_bool (Kd.R_reads' HO_7.out).2.2 x1_2 p238 q238
                      (try rw [← Nbq16.out] at hx238_0)
                      cases e238
                      replace p238 := eq_true p238
                      replace q238 := eq_true q238
                      go_wp2
                      go_roundg k2
                      case measure => have := HJ3.out; have := HK2.out; omega
                      case rel => exact ⟨(wrap64 (x1_2 + 1)), (wrap64 (x9_2 + 1)), (by first | rfl | (simp; done) | (simp [*]; done)), (by first | rfl | (simp; done) | (simp [*]; done)), H', ⟨by have := HJ3.out; have := HK2.out; omega⟩, ⟨by (with_reducible repeat (first | apply Kd.R_alloc | apply Kd.R_drewN | apply Kd.R_drew)); exact HO_7.out⟩, ⟨by (with_reducible repeat (first | refine blk_drewN ?_ _ | refine blk_drew ?_ | refine blk_alloc ?_ _)); exact BK233.out⟩, ⟨by repeat (first | (with_reducible first | exact HB.out | apply below_alloc | apply pw_below_drewN | apply below_drew1 | refine below_set ?_ GE233.out) | exact HB.out)⟩⟩
                    · replace c17 := Bool.eq_false_iff.mpr c17
                      subst c17
                      have H1 : (dryrotref02_TakeInt.j2 k2 x1_2 t234 x9_2) = some (r1, r2, r3) := by rw [if_neg (show ¬ (false = true) by decide)] at H; exact H
                      clear H
                      have H := H1
                      clear H1
                      have H' := Aside0.mk H
                      clear H
                      obtain ⟨Ao19, co19, eo19⟩ := Kd.R_slice HO_7.out
                      subst eo19
                      have p238 : 0 ≤ (x1_2 : Int) := of_decide_eq_true (by first | (with_reducible assumption) | assumption)
                      have q238 : x1_2 < (t234.length : Int) := of_decide_eq_true (by first | (with_reducible assumption) | assumption)
                      obtain ⟨ad238, e238, hx238_0⟩ := Kd.at_bool (Kd.R_reads' HO_7.out).2.2 x1_2 p238 q238
                      (try rw [← Nbq16.out] at hx238_0)
                      cases e238
                      replace p238 := eq_true p238
                      replace q238 := eq_true q238
                      go_wp2
                      go_meet
                      case rel => exact ⟨_, (x1_2), (x9_2), (by first | rfl | (simp; done) | (simp [*]; done)), (by first | rfl | (simp; done) | (simp [*]; done)), H', ⟨by have := HJ3.out; have := HK2.out; first | omega | exact Nat.le_refl _⟩, ⟨by (with_reducible repeat (first | apply Kd.R_alloc | apply Kd.R_drewN | apply Kd.R_drew)); exact HO_7.out⟩, ⟨by (with_reducible repeat (first | refine blk_drewN ?_ _ | refine blk_drew ?_ | refine blk_alloc ?_ _)); exact BK233.out⟩, ⟨by repeat (first | (with_reducible first | exact HB.out | apply below_alloc | apply pw_below_drewN | apply below_drew1 | refine below_set ?_ GE233.out) | exact HB.out)⟩⟩
                  · rw [if_neg c15] at H
                    exact absurd H (by simp)
                · rw [if_neg c14] at H
                  have c14b0 : decide (x1_2 < (t234.length : Int)) = false := decide_eq_false c14
                  clear c14
                  have H' := Aside0.mk H
                  clear H
                  obtain ⟨Ao20, co20, eo20⟩ := Kd.R_slice HO_7.out
                  subst eo20
                  go_wp2
                  go_meet
                  case rel => exact ⟨_, (x1_2), (x9_2), (by first | rfl | (simp; done) | (simp [*]; done)), (by first | rfl | (simp; done) | (simp [*]; done)), H', ⟨by have := HJ3.out; have := HK2.out; first | omega | exact Nat.le_refl _⟩, ⟨by (with_reducible repeat (first | apply Kd.R_alloc | apply Kd.R_drewN | apply Kd.R_drew)); exact HO_7.out⟩, ⟨by (with_reducible repeat (first | refine blk_drewN ?_ _ | refine blk_drew ?_ | refine blk_alloc ?_ _)); exact BK233.out⟩, ⟨by repeat (first | (with_reducible first | exact HB.out | apply below_alloc | apply pw_below_drewN | apply below_drew1 | refine below_set ?_ GE233.out) | exact HB.out)⟩⟩
              · rw [if_neg c13] at H
                have c13b0 : decide (x9_2 < 4) = false := decide_eq_false c13
                clear c13
                (first | rw [c13b0] | (simp only [i64_w, i32_w]; rw [c13b0]) | skip)
                have H' := Aside0.mk H
                clear H
                go_wp2
                go_meet
                case rel => exact ⟨_, (x1_2), (x9_2), (by first | rfl | (simp; done) | (simp [*]; done)), (by first | rfl | (simp; done) | (simp [*]; done)), H', ⟨by have := HJ3.out; have := HK2.out; first | omega | exact Nat.le_refl _⟩, ⟨by (with_reducible repeat (first | apply Kd.R_alloc | apply Kd.R_drewN | apply Kd.R_drew)); exact HO_7.out⟩, ⟨by (with_reducible repeat (first | refine blk_drewN ?_ _ | refine blk_drew ?_ | refine blk_alloc ?_ _)); exact BK233.out⟩, ⟨by repeat (first | (with_reducible first | exact HB.out | apply below_alloc | apply pw_below_drewN | apply below_drew1 | refine below_set ?_ GE233.out) | exact HB.out)⟩⟩
        case rest =>
          clear HC12
          try clear c1
          try clear q1
          try clear c2
          try clear p2
          try clear q2
          try clear hx2
          try clear p6
          try clear c8
          try clear c9
          try clear c9b0
          try clear c11
          try clear c13
          try clear c13b0
          try clear c14
          try clear c14b0
          try clear c15
          try clear c15b0
          try clear q16
          try clear c17
          try clear hcz6_0
          try clear hcz6_1
          try clear hfz6_0
          try clear hfz6_1
          try clear hx238_0
          try clear p2
          try clear p238
          try clear q238
          obtain ⟨kq, x1_11, x9_11, rfl, rfl, HA, HJ11, HO_7, BK233, HB⟩ := hcut
          cases kq with
          | zero => exact absurd HA.out (by simp [dryrotref02_TakeInt.j2])
          | succ kj11 =>
            have H := HA.out
            clear HA
            simp only [dryrotref02_TakeInt.j2] at H
            have HC21 := Aside0.mk H
            clear H
            go_upto_if 50 with (fail)
            go_cut [1] (fun v1 wc => ∃ (kq : Nat) (x1_20 : Int), v1 = .int .i64 x1_20 ∧ Aside0 (dryrotref02_TakeInt.j3 kq x1_20 t234 x9_11 = some (r1, r2, r3)) ∧ Aside0 (kq ≤ kj11) ∧ Aside0 (Kd.R Kd.bool 4 wc w.heap.size (fun _ => True) v235 t234) ∧ Aside0 (wc.heap[gb233]? = some (.cells #[(.slice A0_0 l0_0.length c0_0), .int .i64 a0_1] 24 (0, 0))) ∧ Aside0 (Below w.heap.size w wc))
            case first =>
              have H := HC21.out
              clear HC21
              by_cases c22 : x9_11 < 4
              · rw [if_pos c22] at H
                have c22b0 : decide (x9_11 < 4) = true := decide_eq_true c22
                clear c22
                (first | rw [c22b0] | (simp only [i64_w, i32_w]; rw [c22b0]) | skip)
                by_cases c23 : x1_11 ≥ (t234.length : Int)
                · rw [if_pos c23] at H
                  have c23b0 : decide ((t234.length : Int) ≤ x1_11) = true := decide_eq_true c23
                  clear c23
                  simp only [Option.some.injEq, Prod.mk.injEq] at H
                  obtain ⟨rfl, rfl, rfl⟩ := H
                  obtain ⟨Ao24, co24, eo24⟩ := Kd.R_slice HO_7.out
                  subst eo24
                  go_wp2
                  go_ret3
                  exact ⟨by first | rfl | (simp [errW_none, errW_some] <;> rfl) | (simp [*, errW_none, errW_some] <;> rfl), by repeat (first | (with_reducible first | exact HB.out | apply below_alloc | apply pw_below_drewN | apply below_drew1 | refine below_set ?_ GE233.out) | exact HB.out)⟩
                · rw [if_neg c23] at H
                  have c23b0 : decide ((t234.length : Int) ≤ x1_11) = false := decide_eq_false c23
                  clear c23
                  have H' := Aside0.mk H
                  clear H
                  obtain ⟨Ao25, co25, eo25⟩ := Kd.R_slice HO_7.out
                  subst eo25
                  go_wp2
                  go_meet
                  case rel => exact ⟨_, (wrap64 (x1_11 + 1)), (by first | rfl | (simp; done) | (simp [*]; done)), H', ⟨by have := HJ3.out; have := HJ11.out; first | omega | exact Nat.le_refl _⟩, ⟨by (with_reducible repeat (first | apply Kd.R_alloc | apply Kd.R_drewN | apply Kd.R_drew)); exact HO_7.out⟩, ⟨by (with_reducible repeat (first | refine blk_drewN ?_ _ | refine blk_drew ?_ | refine blk_alloc ?_ _)); exact BK233.out⟩, ⟨by repeat (first | (with_reducible first | exact HB.out | apply below_alloc | apply pw_below_drewN | apply below_drew1 | refine below_set ?_ GE233.out) | exact HB.out)⟩⟩
              · rw [if_neg c22] at H
                have c22b0 : decide (x9_11 < 4) = false := decide_eq_false c22
                clear c22
                (first | rw [c22b0] | (simp only [i64_w, i32_w]; rw [c22b0]) | skip)
                have H' := Aside0.mk H
                clear H
                go_wp2
                go_meet
                case rel => exact ⟨_, (x1_11), (by first | rfl | (simp; done) | (simp [*]; done)), H', ⟨by have := HJ3.out; have := HJ11.out; first | omega | exact Nat.le_refl _⟩, ⟨by (with_reducible repeat (first | apply Kd.R_alloc | apply Kd.R_drewN | apply Kd.R_drew)); exact HO_7.out⟩, ⟨by (with_reducible repeat (first | refine blk_drewN ?_ _ | refine blk_drew ?_ | refine blk_alloc ?_ _)); exact BK233.out⟩, ⟨by repeat (first | (with_reducible first | exact HB.out | apply below_alloc | apply pw_below_drewN | apply below_drew1 | refine below_set ?_ GE233.out) | exact HB.out)⟩⟩
            case rest =>
              clear HC21
              try clear c1
              try clear q1
              try clear c2
              try clear p2
              try clear q2
              try clear hx2
              try clear p6
              try clear c8
              try clear c9
              try clear c9b0
              try clear c11
              try clear c13
              try clear c13b0
              try clear c14
              try clear c14b0
              try clear c15
              try clear c15b0
              try clear q16
              try clear c17
              try clear c21
              try clear c22
              try clear c22b0
              try clear c23
              try clear c23b0
              try clear p23
              try clear q23
              try clear hx23
              try clear c24
              try clear hcz6_0
              try clear hcz6_1
              try clear hfz6_0
              try clear hfz6_1
              try clear hx238_0
              try clear p2
              try clear p238
              try clear p6
              try clear q1
              try clear q16
              try clear q2
              try clear q238
              obtain ⟨kq, x1_20, rfl, HA, HJ20, HO_7, BK233, HB⟩ := hcut
              cases kq with
              | zero => exact absurd HA.out (by simp [dryrotref02_TakeInt.j3])
              | succ kj20 =>
                have H := HA.out
                clear HA
                simp only [dryrotref02_TakeInt.j3] at H
                obtain ⟨y239, hy239⟩ : ∃ y_ : List Int, y_ = (([0, 7, 12, 32, 64] : List Int)) := ⟨_, rfl⟩
                replace H : (if 0 ≤ x9_11 then (if x9_11 < (y239.length : Int) then (if (wrap64 ((t234.length : Int) - x1_20)) < (rd y239 x9_11) then (some (0, 0, 3)) else ((dryrotref02_take.f kj20 t234 x1_20 (rd y239 x9_11)).bind fun t243 => (if (rd y239 x9_11) > 0 then (if (rd y239 x9_11) < 64 then (if 0 ≤ x1_20 then (if x1_20 < (t234.length : Int) then (dryrotref02_TakeInt.j4 kj20 x1_20 x9_11 (rd y239 x9_11) (wrap64 (t243)) (rdOf false t234 x1_20)) else (none)) else (none)) else (dryrotref02_TakeInt.j4 kj20 x1_20 x9_11 (rd y239 x9_11) (wrap64 (t243)) false)) else (dryrotref02_TakeInt.j4 kj20 x1_20 x9_11 (rd y239 x9_11) (wrap64 (t243)) false)))) else (none)) else (none)) = some (r1, r2, r3) := by first | (rw [hy239]; with_reducible exact H) | (have H2_ := (Option.bind_some _ _).symm.trans H; rw [hy239]; with_reducible exact H2_) | (have H2_ := (Option.bind_some _ _).symm.trans H; with_reducible exact H2_) | with_reducible exact H | (rw [hy239]; exact H) | exact H
                have Ny239 := Aside0.mk hy239
                clear hy239
                by_cases c26 : 0 ≤ x9_11
                · rw [if_pos c26] at H
                  have c26b0 : decide (0 ≤ x9_11) = true := decide_eq_true c26
                  clear c26
                  by_cases c27 : x9_11 < (y239.length : Int)
                  · rw [if_pos c27] at H
                    have c27b0 : decide (x9_11 < (y239.length : Int)) = true := decide_eq_true c27
                    clear c27
                    by_cases c28 : (wrap64 ((t234.length : Int) - x1_20)) < (rd y239 x9_11)
                    · rw [if_pos c28] at H
                      have c28b0 : decide ((wrap64 ((t234.length : Int) - x1_20)) < (rd y239 x9_11)) = true := decide_eq_true c28
                      clear c28
                      simp only [Option.some.injEq, Prod.mk.injEq] at H
                      obtain ⟨rfl, rfl, rfl⟩ := H
                      go_wp2_with (first | ((with_reducible refine gate_dst (N := 57) rfl ?_); (try (refine gate_guard (by rfl) ?_; dsimp only)); refine Kd.R_lit (Kd.int .i64) _ 3 ?hg (N := 57) ?hd (xs := ([0, 7, 12, 32, 64] : List Int)) (inner := [.int .i64 0, .int .i64 7, .int .i64 12, .int .i64 32, .int .i64 64]) (ok := fun _ => True) (okp := fun _ => True) ?hr ?hp (fun _ hk => hk) trivial (Below.refl _ _) (Nat.le_refl _) (by simp) ?_; (case hd => rfl); (case hg => rfl); (case hr => first | (go_simp; done) | (go_simp; rfl)); (case hp => exact (Reps.one (show Kd.M (Kd.int .i64) _ _ _ 0 [.int .i64 0] from rfl) (Reps.one (show Kd.M (Kd.int .i64) _ _ _ 7 [.int .i64 7] from rfl) (Reps.one (show Kd.M (Kd.int .i64) _ _ _ 12 [.int .i64 12] from rfl) (Reps.one (show Kd.M (Kd.int .i64) _ _ _ 32 [.int .i64 32] from rfl) (Reps.one (show Kd.M (Kd.int .i64) _ _ _ 64 [.int .i64 64] from rfl) (Reps.none _ _))))))); intro v240 w29 ho30 hb hg_ hnew_; clear hg_ hnew_; (first | rw [← Ny239.out] at ho30 | (simp only [Int.reduceToNat] at ho30; rw [← Ny239.out] at ho30)); have n0_ := Aside0.mk (Kd.R_below (by (with_reducible repeat (first | apply Kd.R_alloc | apply Kd.R_drewN | apply Kd.R_drew)); exact HO_7.out) hb); have n1_ := Aside0.mk (Kd.R_lower ho30 (below_size (by repeat (first | (with_reducible first | exact HB.out | apply below_alloc | apply pw_below_drewN | apply below_drew1 | refine below_set ?_ GE233.out) | exact HB.out)))); have n2_ := Aside0.mk (blk_below (g := gb233) (o := .cells #[.slice A0_0 l0_0.length c0_0, .int .i64 a0_1] 24 (0, 0)) (by (with_reducible repeat (first | refine blk_drewN ?_ _ | refine blk_drew ?_ | refine blk_alloc ?_ _)); exact BK233.out) hb); have n3_ := Aside0.mk (below_step (by repeat (first | (with_reducible first | exact HB.out | apply below_alloc | apply pw_below_drewN | apply below_drew1 | refine below_set ?_ GE233.out) | exact HB.out)) hb); clear HO_7; clear BK233; clear HB; have HO_7 := n0_; have HO241 := n1_; have BK233 := n2_; have HB := n3_; clear n0_ n1_ n2_ n3_; clear hb ho30; obtain ⟨Ao31, co31, eo31⟩ := Kd.R_slice HO241.out; subst eo31; have p242 : 0 ≤ (x9_11 : Int) := of_decide_eq_true (by first | (with_reducible assumption) | assumption); have q242 : x9_11 < (y239.length : Int) := of_decide_eq_true (by first | (with_reducible assumption) | assumption); obtain ⟨ad242, e242, hx242_0⟩ := Kd.at_int (Kd.R_reads' HO241.out).2.2 x9_11 p242 q242; cases e242; replace p242 := eq_true p242; replace q242 := eq_true q242; obtain ⟨Ao32, co32, eo32⟩ := Kd.R_slice HO_7.out; subst eo32))
                      go_ret3
                      exact ⟨by first | rfl | (simp [errW_none, errW_some] <;> rfl) | (simp [*, errW_none, errW_some] <;> rfl), by repeat (first | (with_reducible first | exact HB.out | apply below_alloc | apply pw_below_drewN | apply below_drew1 | refine below_set ?_ GE233.out) | exact HB.out)⟩
                    · rw [if_neg c28] at H
                      have c28b0 : decide ((wrap64 ((t234.length : Int) - x1_20)) < (rd y239 x9_11)) = false := decide_eq_false c28
                      clear c28
                      replace H := Option.bind_eq_some_iff.mp H
                      obtain ⟨t243, A330, H⟩ := H
                      replace H : (if (rd y239 x9_11) > 0 then (if (rd y239 x9_11) < 64 then (if 0 ≤ x1_20 then (if x1_20 < (t234.length : Int) then (dryrotref02_TakeInt.j4 kj20 x1_20 x9_11 (rd y239 x9_11) (wrap64 (t243)) (rdOf false t234 x1_20)) else (none)) else (none)) else (dryrotref02_TakeInt.j4 kj20 x1_20 x9_11 (rd y239 x9_11) (wrap64 (t243)) false)) else (dryrotref02_TakeInt.j4 kj20 x1_20 x9_11 (rd y239 x9_11) (wrap64 (t243)) false)) = some (r1, r2, r3) := H
                      have A33 := Aside0.mk A330
                      clear A330
                      have HC34 := Aside0.mk H
                      clear H
                      go_upto_region 16 with (first | ((with_reducible refine gate_dst (N := 57) rfl ?_); (try (refine gate_guard (by rfl) ?_; dsimp only)); refine Kd.R_lit (Kd.int .i64) _ 3 ?hg (N := 57) ?hd (xs := ([0, 7, 12, 32, 64] : List Int)) (inner := [.int .i64 0, .int .i64 7, .int .i64 12, .int .i64 32, .int .i64 64]) (ok := fun _ => True) (okp := fun _ => True) ?hr ?hp (fun _ hk => hk) trivial (Below.refl _ _) (Nat.le_refl _) (by simp) ?_; (case hd => rfl); (case hg => rfl); (case hr => first | (go_simp; done) | (go_simp; rfl)); (case hp => exact (Reps.one (show Kd.M (Kd.int .i64) _ _ _ 0 [.int .i64 0] from rfl) (Reps.one (show Kd.M (Kd.int .i64) _ _ _ 7 [.int .i64 7] from rfl) (Reps.one (show Kd.M (Kd.int .i64) _ _ _ 12 [.int .i64 12] from rfl) (Reps.one (show Kd.M (Kd.int .i64) _ _ _ 32 [.int .i64 32] from rfl) (Reps.one (show Kd.M (Kd.int .i64) _ _ _ 64 [.int .i64 64] from rfl) (Reps.none _ _))))))); intro v240 w35 ho36 hb hg_ hnew_; clear hg_ hnew_; (first | rw [← Ny239.out] at ho36 | (simp only [Int.reduceToNat] at ho36; rw [← Ny239.out] at ho36)); have n0_ := Aside0.mk (Kd.R_below (by (with_reducible repeat (first | apply Kd.R_alloc | apply Kd.R_drewN | apply Kd.R_drew)); exact HO_7.out) hb); have n1_ := Aside0.mk (Kd.R_lower ho36 (below_size (by repeat (first | (with_reducible first | exact HB.out | apply below_alloc | apply pw_below_drewN | apply below_drew1 | refine below_set ?_ GE233.out) | exact HB.out)))); have n2_ := Aside0.mk (blk_below (g := gb233) (o := .cells #[.slice A0_0 l0_0.length c0_0, .int .i64 a0_1] 24 (0, 0)) (by (with_reducible repeat (first | refine blk_drewN ?_ _ | refine blk_drew ?_ | refine blk_alloc ?_ _)); exact BK233.out) hb); have n3_ := Aside0.mk (below_step (by repeat (first | (with_reducible first | exact HB.out | apply below_alloc | apply pw_below_drewN | apply below_drew1 | refine below_set ?_ GE233.out) | exact HB.out)) hb); clear HO_7; clear BK233; clear HB; have HO_7 := n0_; have HO241 := n1_; have BK233 := n2_; have HB := n3_; clear n0_ n1_ n2_ n3_; clear hb ho36; obtain ⟨Ao37, co37, eo37⟩ := Kd.R_slice HO241.out; subst eo37; have p242 : 0 ≤ (x9_11 : Int) := of_decide_eq_true (by first | (with_reducible assumption) | assumption); have q242 : x9_11 < (y239.length : Int) := of_decide_eq_true (by first | (with_reducible assumption) | assumption); obtain ⟨ad242, e242, hx242_0⟩ := Kd.at_int (Kd.R_reads' HO241.out).2.2 x9_11 p242 q242; cases e242; replace p242 := eq_true p242; replace q242 := eq_true q242; obtain ⟨Ao38, co38, eo38⟩ := Kd.R_slice HO_7.out; subst eo38) | ((with_reducible refine gate_callee (f := 27) rfl ?_); refine goesL_ (some 70) rfl rfl Try.func27 (by kernel_rfl) rfl #[.slice Ao38 t234.length co38, .int .i64 x1_20, .int .i64 (rd y239 x9_11)] rfl (by (try simp only [List.map_toArray, List.map_cons, List.map_nil]); first | done | rfl | (simp only [List.length_drop, List.length_take]; rfl)) ?_; (with_reducible refine (dryrotref02_take.calls kj20 _ _ t234 x1_20 (rd y239 x9_11) t243 _ ?side1 ?side2 A33.out).mono ?_); (case side1 => repeat (first | exact (Kd.R_reads' HO_7.out).2.2 | (with_reducible refine Kd.C_alloc ?_ _) | (with_reducible refine Kd.C_drewN ?_ _) | (with_reducible refine Kd.C_drew ?_))); (case side2 => exact (Kd.R_reads' HO_7.out).2.1); rintro e w' ⟨rfl, ⟨nd, rfl⟩⟩; refine ⟨_, rfl, ?_⟩))
                      (try simp only [Act.put, List.setIfInBounds_toArray, List.set_cons_zero, List.set_cons_succ])
                      go_cut [83] (fun v83 wc => ∃ (kq : Nat) (x83_33 : Bool), v83 = .bool x83_33 ∧ Aside0 (dryrotref02_TakeInt.j4 kq x1_20 x9_11 (rd y239 x9_11) (wrap64 (t243)) x83_33 = some (r1, r2, r3)) ∧ Aside0 (kq ≤ kj20) ∧ Aside0 (wc.heap[gb233]? = some (.cells #[(.slice A0_0 l0_0.length c0_0), .int .i64 a0_1] 24 (0, 0))) ∧ Aside0 (Below w.heap.size w wc))
                      case first =>
                        have H := HC34.out
                        clear HC34
                        by_cases c39 : (rd y239 x9_11) > 0
                        · rw [if_pos c39] at H
                          have c39b0 : decide (0 < (rd y239 x9_11)) = true := decide_eq_true c39
                          clear c39
                          (first | rw [c39b0] | (simp only [i64_w, i32_w]; rw [c39b0]) | skip)
                          by_cases c40 : (rd y239 x9_11) < 64
                          · rw [if_pos c40] at H
                            have c40b0 : decide ((rd y239 x9_11) < 64) = true := decide_eq_true c40
                            clear c40
                            by_cases c41 : 0 ≤ x1_20
                            · rw [if_pos c41] at H
                              have c41b0 : decide (0 ≤ x1_20) = true := decide_eq_true c41
                              clear c41
                              by_cases c42 : x1_20 < (t234.length : Int)
                              · rw [if_pos c42] at H
                                have c42b0 : decide (x1_20 < (t234.length : Int)) = true := decide_eq_true c42
                                clear c42
                                have H' := Aside0.mk H
                                clear H
                                have p244 : 0 ≤ (x1_20 : Int) := of_decide_eq_true (by first | (with_reducible assumption) | assumption)
                                have q244 : x1_20 < (t234.length : Int) := of_decide_eq_true (by first | (with_reducible assumption) | assumption)
                                obtain ⟨ad244, e244, hx244_0⟩ := Kd.at_bool (Kd.R_reads' HO_7.out).2.2 x1_20 p244 q244
                                cases e244
                                replace p244 := eq_true p244
                                replace q244 := eq_true q244
                                go_wp2
                                go_meet
                                case rel => exact ⟨_, (rdOf false t234 x1_20), (by first | rfl | (simp; done) | (simp [*]; done)), H', ⟨by have := HJ3.out; have := HJ11.out; have := HJ20.out; first | omega | exact Nat.le_refl _⟩, ⟨by (with_reducible repeat (first | refine blk_drewN ?_ _ | refine blk_drew ?_ | refine blk_alloc ?_ _)); exact BK233.out⟩, ⟨by repeat (first | (with_reducible first | exact HB.out | apply below_alloc | apply pw_below_drewN | apply below_drew1 | refine below_set ?_ GE233.out) | exact HB.out)⟩⟩
                              · rw [if_neg c42] at H
                                exact absurd H (by simp)
                            · rw [if_neg c41] at H
                              exact absurd H (by simp)
                          · rw [if_neg c40] at H
                            have c40b0 : decide ((rd y239 x9_11) < 64) = false := decide_eq_false c40
                            clear c40
                            have H' := Aside0.mk H
                            clear H
                            go_wp2
                            go_meet
                            case rel => exact ⟨_, (false), (by first | rfl | (simp; done) | (simp [*]; done)), H', ⟨by have := HJ3.out; have := HJ11.out; have := HJ20.out; first | omega | exact Nat.le_refl _⟩, ⟨by (with_reducible repeat (first | refine blk_drewN ?_ _ | refine blk_drew ?_ | refine blk_alloc ?_ _)); exact BK233.out⟩, ⟨by repeat (first | (with_reducible first | exact HB.out | apply below_alloc | apply pw_below_drewN | apply below_drew1 | refine below_set ?_ GE233.out) | exact HB.out)⟩⟩
                        · rw [if_neg c39] at H
                          have c39b0 : decide (0 < (rd y239 x9_11)) = false := decide_eq_false c39
                          clear c39
                          (first | rw [c39b0] | (simp only [i64_w, i32_w]; rw [c39b0]) | skip)
                          have H' := Aside0.mk H
                          clear H
                          go_wp2
                          go_meet
                          case rel => exact ⟨_, (false), (by first | rfl | (simp; done) | (simp [*]; done)), H', ⟨by have := HJ3.out; have := HJ11.out; have := HJ20.out; first | omega | exact Nat.le_refl _⟩, ⟨by (with_reducible repeat (first | refine blk_drewN ?_ _ | refine blk_drew ?_ | refine blk_alloc ?_ _)); exact BK233.out⟩, ⟨by repeat (first | (with_reducible first | exact HB.out | apply below_alloc | apply pw_below_drewN | apply below_drew1 | refine below_set ?_ GE233.out) | exact HB.out)⟩⟩
                      case rest =>
                        clear HC34
                        try clear c1
                        try clear q1
                        try clear c2
                        try clear p2
                        try clear q2
                        try clear hx2
                        try clear c3
                        try clear c4
                        try clear p6
                        try clear c8
                        try clear c9
                        try clear c9b0
                        try clear c11
                        try clear c13
                        try clear c13b0
                        try clear c14
                        try clear c14b0
                        try clear c15
                        try clear c15b0
                        try clear q16
                        try clear c17
                        try clear c21
                        try clear c22
                        try clear c22b0
                        try clear c23
                        try clear c23b0
                        try clear p23
                        try clear q23
                        try clear hx23
                        try clear c24
                        try clear p24
                        try clear q24
                        try clear hx24
                        try clear c26
                        try clear c26b0
                        try clear c27
                        try clear c27b0
                        try clear c28
                        try clear c28b0
                        try clear c39
                        try clear c39b0
                        try clear c40
                        try clear c40b0
                        try clear c41
                        try clear c41b0
                        try clear c42
                        try clear c42b0
                        try clear hcz6_0
                        try clear hcz6_1
                        try clear hfz6_0
                        try clear hfz6_1
                        try clear hx238_0
                        try clear hx242_0
                        try clear hx244_0
                        try clear p2
                        try clear p23
                        try clear p238
                        try clear p242
                        try clear p244
                        try clear p6
                        try clear q1
                        try clear q16
                        try clear q2
                        try clear q23
                        try clear q238
                        try clear q242
                        try clear q244
                        obtain ⟨kq, x83_33, rfl, HA, HJ33, BK233, HB⟩ := hcut
                        cases kq with
                        | zero => exact absurd HA.out (by simp [dryrotref02_TakeInt.j4])
                        | succ kj33 =>
                          have H := HA.out
                          clear HA
                          simp only [dryrotref02_TakeInt.j4] at H
                          by_cases c43 : x83_33 = true
                          · subst c43
                            have H1 : (if 0 ≤ (rd y239 x9_11) then ((dryrotref02_class.f kj33 (wrap64 ((wrap64 (t243)) - (shl .i64 1 (rd y239 x9_11))))).bind fun bt245 => (if bt245.1 = x9_11 then (some (wrap64 ((wrap64 (t243)) - (shl .i64 1 (rd y239 x9_11))), wrap64 (x1_20 + (rd y239 x9_11)), 0)) else (some (0, 0, 5)))) else (none)) = some (r1, r2, r3) := by rw [if_pos rfl] at H; exact H
                            clear H
                            have H := H1
                            clear H1
                            by_cases c44 : 0 ≤ (rd y239 x9_11)
                            · rw [if_pos c44] at H
                              have c44b0 := eq_true c44
                              have c44b1 : decide (0 ≤ (rd y239 x9_11)) = true := decide_eq_true c44
                              clear c44
                              obtain ⟨ji45, hji45⟩ : ∃ j_ : Int, (shl .i64 1 (rd y239 x9_11)) = j_ := ⟨_, rfl⟩
                              replace H : ((dryrotref02_class.f kj33 (wrap64 ((wrap64 (t243)) - (ji45)))).bind fun bt245 => (if bt245.1 = x9_11 then (some (wrap64 ((wrap64 (t243)) - (ji45)), wrap64 (x1_20 + (rd y239 x9_11)), 0)) else (some (0, 0, 5)))) = some (r1, r2, r3) := by first | (rw [hji45] at H; exact H) | (simp only [hji45] at H ⊢; exact H)
                              have hji45_ : (IntKind.i64.wrap (1 * 2 ^ min (rd y239 x9_11).toNat 64)) = ji45 := hji45
                              have hji45z : (rd y239 x9_11) ≤ 64 → (IntKind.i64.wrap (1 * 2 ^ (rd y239 x9_11).toNat)) = ji45 := shl_small hji45
                              have hji45u : (IntKind.i64.wrap (2 ^ min (rd y239 x9_11).toNat 64)) = ji45 := by have h_ := hji45_; rw [Int.one_mul] at h_; exact h_
                              have hji45v : (rd y239 x9_11) ≤ 64 → (IntKind.i64.wrap (2 ^ (rd y239 x9_11).toNat)) = ji45 := fun hle_ => by have h_ := hji45z hle_; rw [Int.one_mul] at h_; exact h_
                              have hji45y : (wrap64 (1 * 2 ^ min (rd y239 x9_11).toNat 64)) = ji45 := (i64_w _).symm.trans hji45_
                              have hji45x : (rd y239 x9_11) ≤ 64 → (wrap64 (1 * 2 ^ (rd y239 x9_11).toNat)) = ji45 := fun h_ => (i64_w _).symm.trans (hji45z h_)
                              replace H := Option.bind_eq_some_iff.mp H
                              obtain ⟨⟨t245, t246⟩, A460, H⟩ := H
                              replace H : (if t245 = x9_11 then (some (wrap64 ((wrap64 (t243)) - (ji45)), wrap64 (x1_20 + (rd y239 x9_11)), 0)) else (some (0, 0, 5))) = some (r1, r2, r3) := H
                              have A46 := Aside0.mk A460
                              clear A460
                              by_cases c47 : t245 = x9_11
                              · rw [if_pos c47] at H
                                have c47b0 : (t245 == x9_11) = true := beq_iff_eq.mpr c47
                                have c47b1 : (t245 != x9_11) = false := bne_eq_false_iff_eq.mpr c47
                                clear c47
                                simp only [Option.some.injEq, Prod.mk.injEq] at H
                                obtain ⟨rfl, rfl, rfl⟩ := H
                                go_wp2_with (first | ((with_reducible refine gate_callee (f := 30) rfl ?_); refine goesL_ (some 90) rfl rfl Try.func30 (by kernel_rfl) rfl #[.int .i64 (wrap64 ((wrap64 (t243)) - (ji45)))] rfl (by (try simp only [List.map_toArray, List.map_cons, List.map_nil]); first | done | (simp only [hji45]; rfl) | rfl | (simp only [List.length_drop, List.length_take]; rfl)) ?_; (with_reducible refine (dryrotref02_class.calls kj33 (wrap64 ((wrap64 (t243)) - (ji45))) t245 t246 _ A46.out).mono ?_); rintro e w' ⟨rfl, ⟨nd, rfl⟩⟩; refine ⟨_, rfl, ?_⟩))
                                go_ret3
                                exact ⟨by first | rfl | (simp [errW_none, errW_some] <;> rfl) | (simp only [← hji45]; first | rfl | (simp [errW_none, errW_some] <;> rfl)) | (simp [*, errW_none, errW_some] <;> rfl), by repeat (first | (with_reducible first | exact HB.out | apply below_alloc | apply pw_below_drewN | apply below_drew1 | refine below_set ?_ GE233.out) | exact HB.out)⟩
                              · rw [if_neg c47] at H
                                have c47b0 : (t245 == x9_11) = false := beq_eq_false_iff_ne.mpr c47
                                have c47b1 : (t245 != x9_11) = true := bne_iff_ne.mpr c47
                                simp only [Option.some.injEq, Prod.mk.injEq] at H
                                obtain ⟨rfl, rfl, rfl⟩ := H
                                go_wp2_with (first | ((with_reducible refine gate_callee (f := 30) rfl ?_); refine goesL_ (some 90) rfl rfl Try.func30 (by kernel_rfl) rfl #[.int .i64 (wrap64 ((wrap64 (t243)) - (ji45)))] rfl (by (try simp only [List.map_toArray, List.map_cons, List.map_nil]); first | done | (simp only [hji45]; rfl) | rfl | (simp only [List.length_drop, List.length_take]; rfl)) ?_; (with_reducible refine (dryrotref02_class.calls kj33 (wrap64 ((wrap64 (t243)) - (ji45))) t245 t246 _ A46.out).mono ?_); rintro e w' ⟨rfl, ⟨nd, rfl⟩⟩; refine ⟨_, rfl, ?_⟩))
                                go_ret3
                                exact ⟨by first | rfl | (simp [errW_none, errW_some] <;> rfl) | (simp only [← hji45]; first | rfl | (simp [errW_none, errW_some] <;> rfl)) | (simp [*, errW_none, errW_some] <;> rfl), by repeat (first | (with_reducible first | exact HB.out | apply below_alloc | apply pw_below_drewN | apply below_drew1 | refine below_set ?_ GE233.out) | exact HB.out)⟩
                            · rw [if_neg c44] at H
                              exact absurd H (by simp)
                          · replace c43 := Bool.eq_false_iff.mpr c43
                            subst c43
                            have H1 : ((dryrotref02_class.f kj33 (wrap64 (t243))).bind fun bt247 => (if bt247.1 = x9_11 then (some ((wrap64 (t243)), wrap64 (x1_20 + (rd y239 x9_11)), 0)) else (some (0, 0, 5)))) = some (r1, r2, r3) := by rw [if_neg (show ¬ (false = true) by decide)] at H; exact H
                            clear H
                            have H := H1
                            clear H1
                            replace H := Option.bind_eq_some_iff.mp H
                            obtain ⟨⟨t247, t248⟩, A480, H⟩ := H
                            replace H : (if t247 = x9_11 then (some ((wrap64 (t243)), wrap64 (x1_20 + (rd y239 x9_11)), 0)) else (some (0, 0, 5))) = some (r1, r2, r3) := H
                            have A48 := Aside0.mk A480
                            clear A480
                            by_cases c49 : t247 = x9_11
                            · rw [if_pos c49] at H
                              have c49b0 : (t247 == x9_11) = true := beq_iff_eq.mpr c49
                              have c49b1 : (t247 != x9_11) = false := bne_eq_false_iff_eq.mpr c49
                              clear c49
                              simp only [Option.some.injEq, Prod.mk.injEq] at H
                              obtain ⟨rfl, rfl, rfl⟩ := H
                              go_wp2_with (first | ((with_reducible refine gate_callee (f := 30) rfl ?_); refine goesL_ (some 90) rfl rfl Try.func30 (by kernel_rfl) rfl #[.int .i64 (wrap64 (t243))] rfl (by (try simp only [List.map_toArray, List.map_cons, List.map_nil]); first | done | rfl | (simp only [List.length_drop, List.length_take]; rfl)) ?_; (with_reducible refine (dryrotref02_class.calls kj33 (wrap64 (t243)) t247 t248 _ A48.out).mono ?_); rintro e w' ⟨rfl, ⟨nd, rfl⟩⟩; refine ⟨_, rfl, ?_⟩))
                              go_ret3
                              exact ⟨by first | rfl | (simp [errW_none, errW_some] <;> rfl) | (simp [*, errW_none, errW_some] <;> rfl), by repeat (first | (with_reducible first | exact HB.out | apply below_alloc | apply pw_below_drewN | apply below_drew1 | refine below_set ?_ GE233.out) | exact HB.out)⟩
                            · rw [if_neg c49] at H
                              have c49b0 : (t247 == x9_11) = false := beq_eq_false_iff_ne.mpr c49
                              have c49b1 : (t247 != x9_11) = true := bne_iff_ne.mpr c49
                              simp only [Option.some.injEq, Prod.mk.injEq] at H
                              obtain ⟨rfl, rfl, rfl⟩ := H
                              go_wp2_with (first | ((with_reducible refine gate_callee (f := 30) rfl ?_); refine goesL_ (some 90) rfl rfl Try.func30 (by kernel_rfl) rfl #[.int .i64 (wrap64 (t243))] rfl (by (try simp only [List.map_toArray, List.map_cons, List.map_nil]); first | done | rfl | (simp only [List.length_drop, List.length_take]; rfl)) ?_; (with_reducible refine (dryrotref02_class.calls kj33 (wrap64 (t243)) t247 t248 _ A48.out).mono ?_); rintro e w' ⟨rfl, ⟨nd, rfl⟩⟩; refine ⟨_, rfl, ?_⟩))
                              go_ret3
                              exact ⟨by first | rfl | (simp [errW_none, errW_some] <;> rfl) | (simp [*, errW_none, errW_some] <;> rfl), by repeat (first | (with_reducible first | exact HB.out | apply below_alloc | apply pw_below_drewN | apply below_drew1 | refine below_set ?_ GE233.out) | exact HB.out)⟩
                  · rw [if_neg c27] at H
                    exact absurd H (by simp)
                · rw [if_neg c26] at H
                  exact absurd H (by simp)

end Go.Proofs.Ytpeekkpdglfbbaa.PA

/- Lemmas and contracts that the law ChunkBack leans on (packed by a program of this session out of its texts and the print's words). -/
import Derived.Test.YtbgmnmjokdfmlaaDoorZB2
import Derived.Deep.RegionWith
import Derived.Shelf.Spec.TrailingZeros
import Derived.Lib.Strings
import Derived.Lib.Slices
import Derived.Lib.Small
import Derived.Lib.Walk
import Derived.Lib.BitFns
namespace Go.Proofs.YtbgmnmjokdfmlaaDoor.PA
open Go.RowKit Go.Proofs.YtbgmnmjokdfmlaaDoorW.PrintWords Go.Proofs.YtbgmnmjokdfmlaaDoorW.PrintLast Go.Proofs.YtbgmnmjokdfmlaaDoorW.PrintMore
attribute [local go_sem] max2_int min2_int max_two min_two max_three min_three max_four min_four   -- for this text's walks alone
set_option linter.unusedVariables false
set_option linter.unusedSimpArgs false
mutual
def bits_class.j0 : Nat → Int → Int → Bool → Option (Int)
  | 0, _, _, _ => none
  | k + 1, x0, x3, x7 => if x7 = true then (some (wrap64 ((wrap64 ((wrap64 (x3 - 1)) - 1)) - 1))) else (if x0 ≥ (-2048) then (bits_class.j1 k x0 x3 (decide (x0 < 2048))) else (bits_class.j1 k x0 x3 false))
def bits_class.j1 : Nat → Int → Int → Bool → Option (Int)
  | 0, _, _, _ => none
  | k + 1, x0, x3, x14 => if x14 = true then (some (wrap64 ((wrap64 (x3 - 1)) - 1))) else (if x0 ≥ (-2147483648) then (if x0 < 2147483648 then (some (wrap64 (x3 - 1))) else (some x3)) else (some x3))
end
def bits_class.f (k : Nat) (a0 : Int) : Option (Int) := if a0 = 0 then (some 0) else (if a0 ≥ (-64) then (bits_class.j0 k a0 4 (decide (a0 < 64))) else (bits_class.j0 k a0 4 false))
theorem bits_class.mono_l : ∀ k, (∀ y0 y1 y2, LeO (bits_class.j0 k y0 y1 y2) (bits_class.j0 (k + 1) y0 y1 y2)) ∧ (∀ y0 y1 y2, LeO (bits_class.j1 k y0 y1 y2) (bits_class.j1 (k + 1) y0 y1 y2))
  | 0 => ⟨fun _ _ _ r h => by simp [bits_class.j0] at h, fun _ _ _ r h => by simp [bits_class.j1] at h⟩
  | k + 1 => by
    obtain ⟨ih0, ih1⟩ := bits_class.mono_l k
    refine ⟨?_, ?_⟩
    · intro y0 y1 y2
      unfold bits_class.j0
      repeat' first
      | (with_reducible exact ih0 _ _ _)
      | (with_reducible exact ih1 _ _ _)
      | (with_reducible exact LeO.refl _)
      | (with_reducible exact LeO.none _)
      | (with_reducible refine LeO.ite ?_ ?_)
      | (with_reducible refine LeO.bind ?_ (fun _ => ?_))
      | exact ih0 _ _ _
      | exact ih1 _ _ _
      | exact LeO.none _
      | refine LeO.ite ?_ ?_
      | refine LeO.bind ?_ (fun _ => ?_)
    · intro y0 y1 y2
      unfold bits_class.j1
      repeat' first
      | (with_reducible exact ih0 _ _ _)
      | (with_reducible exact ih1 _ _ _)
      | (with_reducible exact LeO.refl _)
      | (with_reducible exact LeO.none _)
      | (with_reducible refine LeO.ite ?_ ?_)
      | (with_reducible refine LeO.bind ?_ (fun _ => ?_))
      | exact ih0 _ _ _
      | exact ih1 _ _ _
      | exact LeO.none _
      | refine LeO.ite ?_ ?_
      | refine LeO.bind ?_ (fun _ => ?_)
theorem bits_class.mono : ∀ a0 k, LeO (bits_class.f k a0) (bits_class.f (k + 1) a0) := by
  intro a0 k
  obtain ⟨ih0, ih1⟩ := bits_class.mono_l k
  unfold bits_class.f
  repeat' first
      | (with_reducible exact ih0 _ _ _)
      | (with_reducible exact ih1 _ _ _)
      | (with_reducible exact LeO.refl _)
      | (with_reducible exact LeO.none _)
      | (with_reducible refine LeO.ite ?_ ?_)
      | (with_reducible refine LeO.bind ?_ (fun _ => ?_))
      | exact ih0 _ _ _
      | exact ih1 _ _ _
      | exact LeO.none _
      | refine LeO.ite ?_ ?_
      | refine LeO.bind ?_ (fun _ => ?_)
set_option maxHeartbeats 8000000 in
set_option maxRecDepth 100000 in
theorem bits_class.calls (k : Nat) (a0 : Int) (r : Int) (w : World) (h : bits_class.f k a0 = some r) :
    Calls Tryd.prog 116 #[.int .i64 a0] w fun e w' => e = .returned (.int .i64 r) ∧ Drawn0 w w' := by
  have H : (if a0 = 0 then (some 0) else (if a0 ≥ (-64) then (bits_class.j0 k a0 4 (decide (a0 < 64))) else (bits_class.j0 k a0 4 false))) = some r := h
  clear h
  by_cases c2 : a0 = 0
  · rw [if_pos c2] at H
    have c2b0 : (a0 == 0) = true := beq_iff_eq.mpr c2
    have c2b1 : (a0 != 0) = false := bne_eq_false_iff_eq.mpr c2
    clear c2
    obtain rfl := Option.some.inj H
    go_enter Tryd.func116, Tryd.ntmps116
    go_wp2
    go_ret
    exact ⟨by first | rfl | (simp; done) | (simp [*]; done) | (simp; decide +kernel), by repeat (first | exact Drawn0.refl _ | apply Drawn0.step)⟩
  · rw [if_neg c2] at H
    have c2b0 : (a0 == 0) = false := beq_eq_false_iff_ne.mpr c2
    have c2b1 : (a0 != 0) = true := bne_iff_ne.mpr c2
    have HC3 := Aside0.mk H
    clear H
    go_enter Tryd.func116, Tryd.ntmps116
    go_upto_region 3 with (fail)
    go_cut [7] (fun v7 wc => ∃ (kq : Nat) (x7_2 : Bool), v7 = .bool x7_2 ∧ Aside0 (bits_class.j0 kq a0 4 x7_2 = some r) ∧ Aside0 (kq ≤ k) ∧ Drawn0 w wc)
    case first =>
      have H := HC3.out
      clear HC3
      by_cases c4 : a0 ≥ (-64)
      · rw [if_pos c4] at H
        have c4b0 : decide ((-64) ≤ a0) = true := decide_eq_true c4
        clear c4
        (first | rw [c4b0] | (simp only [i64_w, i32_w]; rw [c4b0]) | skip)
        have H' := Aside0.mk H
        clear H
        go_wp2
        go_meet
        case rel => exact ⟨_, (decide (a0 < 64)), (by first | rfl | (simp; done) | (simp [*]; done)), H', ⟨by first | omega | exact Nat.le_refl _⟩, by repeat (first | exact Drawn0.refl _ | apply Drawn0.step)⟩
      · rw [if_neg c4] at H
        have c4b0 : decide ((-64) ≤ a0) = false := decide_eq_false c4
        clear c4
        (first | rw [c4b0] | (simp only [i64_w, i32_w]; rw [c4b0]) | skip)
        have H' := Aside0.mk H
        clear H
        go_wp2
        go_meet
        case rel => exact ⟨_, (false), (by first | rfl | (simp; done) | (simp [*]; done)), H', ⟨by first | omega | exact Nat.le_refl _⟩, by repeat (first | exact Drawn0.refl _ | apply Drawn0.step)⟩
    case rest =>
      clear HC3
      try clear c1
      try clear c2
      try clear c2b0
      try clear c2b1
      try clear p2
      try clear c4
      try clear c4b0
      obtain ⟨kq, x7_2, rfl, HA, HJ2, ⟨mc2, rfl⟩⟩ := hcut
      cases kq with
      | zero => exact absurd HA.out (by simp [bits_class.j0])
      | succ kj2 =>
        have H := HA.out
        clear HA
        simp only [bits_class.j0] at H
        by_cases c5 : x7_2 = true
        · subst c5
          have H1 : (some (wrap64 ((wrap64 ((wrap64 (4 - 1)) - 1)) - 1))) = some r := by rw [if_pos rfl] at H; exact H
          clear H
          have H := H1
          clear H1
          obtain rfl := Option.some.inj H
          go_wp2
          go_ret
          exact ⟨by first | rfl | (simp; done) | (simp [*]; done) | (simp; decide +kernel), by repeat (first | exact Drawn0.refl _ | apply Drawn0.step)⟩
        · replace c5 := Bool.eq_false_iff.mpr c5
          subst c5
          have H1 : (if a0 ≥ (-2048) then (bits_class.j1 kj2 a0 4 (decide (a0 < 2048))) else (bits_class.j1 kj2 a0 4 false)) = some r := by rw [if_neg (show ¬ (false = true) by decide)] at H; exact H
          clear H
          have H := H1
          clear H1
          have HC6 := Aside0.mk H
          clear H
          go_upto_region 4 with (fail)
          go_cut [14] (fun v14 wc => ∃ (kq : Nat) (x14_5 : Bool), v14 = .bool x14_5 ∧ Aside0 (bits_class.j1 kq a0 4 x14_5 = some r) ∧ Aside0 (kq ≤ kj2) ∧ Drawn0 w wc)
          case first =>
            have H := HC6.out
            clear HC6
            by_cases c7 : a0 ≥ (-2048)
            · rw [if_pos c7] at H
              have c7b0 : decide ((-2048) ≤ a0) = true := decide_eq_true c7
              clear c7
              (first | rw [c7b0] | (simp only [i64_w, i32_w]; rw [c7b0]) | skip)
              have H' := Aside0.mk H
              clear H
              go_wp2
              go_meet
              case rel => exact ⟨_, (decide (a0 < 2048)), (by first | rfl | (simp; done) | (simp [*]; done)), H', ⟨by have := HJ2.out; first | omega | exact Nat.le_refl _⟩, by repeat (first | exact Drawn0.refl _ | apply Drawn0.step)⟩
            · rw [if_neg c7] at H
              have c7b0 : decide ((-2048) ≤ a0) = false := decide_eq_false c7
              clear c7
              (first | rw [c7b0] | (simp only [i64_w, i32_w]; rw [c7b0]) | skip)
              have H' := Aside0.mk H
              clear H
              go_wp2
              go_meet
              case rel => exact ⟨_, (false), (by first | rfl | (simp; done) | (simp [*]; done)), H', ⟨by have := HJ2.out; first | omega | exact Nat.le_refl _⟩, by repeat (first | exact Drawn0.refl _ | apply Drawn0.step)⟩
          case rest =>
            clear HC6
            try clear c1
            try clear c2
            try clear c2b0
            try clear c2b1
            try clear p2
            try clear c4
            try clear c4b0
            try clear c5
            try clear p6
            try clear c7
            try clear c7b0
            try clear p2
            obtain ⟨kq, x14_5, rfl, HA, HJ5, ⟨mc5, rfl⟩⟩ := hcut
            cases kq with
            | zero => exact absurd HA.out (by simp [bits_class.j1])
            | succ kj5 =>
              have H := HA.out
              clear HA
              simp only [bits_class.j1] at H
              by_cases c8 : x14_5 = true
              · subst c8
                have H1 : (some (wrap64 ((wrap64 (4 - 1)) - 1))) = some r := by rw [if_pos rfl] at H; exact H
                clear H
                have H := H1
                clear H1
                obtain rfl := Option.some.inj H
                go_wp2
                go_ret
                exact ⟨by first | rfl | (simp; done) | (simp [*]; done) | (simp; decide +kernel), by repeat (first | exact Drawn0.refl _ | apply Drawn0.step)⟩
              · replace c8 := Bool.eq_false_iff.mpr c8
                subst c8
                have H1 : (if a0 ≥ (-2147483648) then (if a0 < 2147483648 then (some (wrap64 (4 - 1))) else (some 4)) else (some 4)) = some r := by rw [if_neg (show ¬ (false = true) by decide)] at H; exact H
                clear H
                have H := H1
                clear H1
                by_cases c9 : a0 ≥ (-2147483648)
                · rw [if_pos c9] at H
                  have c9b0 : decide ((-2147483648) ≤ a0) = true := decide_eq_true c9
                  clear c9
                  by_cases c10 : a0 < 2147483648
                  · rw [if_pos c10] at H
                    have c10b0 : decide (a0 < 2147483648) = true := decide_eq_true c10
                    clear c10
                    obtain rfl := Option.some.inj H
                    go_wp2
                    go_ret
                    exact ⟨by first | rfl | (simp; done) | (simp [*]; done) | (simp; decide +kernel), by repeat (first | exact Drawn0.refl _ | apply Drawn0.step)⟩
                  · rw [if_neg c10] at H
                    have c10b0 : decide (a0 < 2147483648) = false := decide_eq_false c10
                    clear c10
                    obtain rfl := Option.some.inj H
                    go_wp2
                    go_ret
                    exact ⟨by first | rfl | (simp; done) | (simp [*]; done) | (simp; decide +kernel), by repeat (first | exact Drawn0.refl _ | apply Drawn0.step)⟩
                · rw [if_neg c9] at H
                  have c9b0 : decide ((-2147483648) ≤ a0) = false := decide_eq_false c9
                  clear c9
                  obtain rfl := Option.some.inj H
                  go_wp2
                  go_ret
                  exact ⟨by first | rfl | (simp; done) | (simp [*]; done) | (simp; decide +kernel), by repeat (first | exact Drawn0.refl _ | apply Drawn0.step)⟩
end Go.Proofs.YtbgmnmjokdfmlaaDoor.PA
namespace Go.Proofs.YtbgmnmjokdfmlaaDoor.PA
open Go.RowKit Go.Proofs.YtbgmnmjokdfmlaaDoorW.PrintWords Go.Proofs.YtbgmnmjokdfmlaaDoorW.PrintLast Go.Proofs.YtbgmnmjokdfmlaaDoorW.PrintMore
attribute [local go_sem] max2_int min2_int max_two min_two max_three min_three max_four min_four   -- for this text's walks alone
set_option linter.unusedVariables false
set_option linter.unusedSimpArgs false
def bits_width.f (a0 : Int) : Option (Int) := if a0 = 1 then (some 7) else (if a0 = 2 then (some 12) else (if a0 = 3 then (some 32) else (if a0 = 4 then (some 64) else (some 0))))
set_option maxHeartbeats 8000000 in
set_option maxRecDepth 100000 in
theorem bits_width.calls (a0 : Int) (r : Int) (w : World) (h : bits_width.f a0 = some r) :
    Calls Tryd.prog 117 #[.int .i64 a0] w fun e w' => e = .returned (.int .i64 r) ∧ Drawn0 w w' := by
  have H : (if a0 = 1 then (some 7) else (if a0 = 2 then (some 12) else (if a0 = 3 then (some 32) else (if a0 = 4 then (some 64) else (some 0))))) = some r := h
  clear h
  by_cases c2 : a0 = 1
  · rw [if_pos c2] at H
    have c2b0 : (a0 == 1) = true := beq_iff_eq.mpr c2
    have c2b1 : (a0 != 1) = false := bne_eq_false_iff_eq.mpr c2
    clear c2
    obtain rfl := Option.some.inj H
    go_enter Tryd.func117, Tryd.ntmps117
    go_wp2
    go_ret
    exact ⟨by first | rfl | (simp; done) | (simp [*]; done) | (simp; decide +kernel), by repeat (first | exact Drawn0.refl _ | apply Drawn0.step)⟩
  · rw [if_neg c2] at H
    have c2b0 : (a0 == 1) = false := beq_eq_false_iff_ne.mpr c2
    have c2b1 : (a0 != 1) = true := bne_iff_ne.mpr c2
    by_cases c3 : a0 = 2
    · rw [if_pos c3] at H
      have c3b0 : (a0 == 2) = true := beq_iff_eq.mpr c3
      have c3b1 : (a0 != 2) = false := bne_eq_false_iff_eq.mpr c3
      clear c3
      obtain rfl := Option.some.inj H
      go_enter Tryd.func117, Tryd.ntmps117
      go_wp2
      go_ret
      exact ⟨by first | rfl | (simp; done) | (simp [*]; done) | (simp; decide +kernel), by repeat (first | exact Drawn0.refl _ | apply Drawn0.step)⟩
    · rw [if_neg c3] at H
      have c3b0 : (a0 == 2) = false := beq_eq_false_iff_ne.mpr c3
      have c3b1 : (a0 != 2) = true := bne_iff_ne.mpr c3
      by_cases c4 : a0 = 3
      · rw [if_pos c4] at H
        have c4b0 : (a0 == 3) = true := beq_iff_eq.mpr c4
        have c4b1 : (a0 != 3) = false := bne_eq_false_iff_eq.mpr c4
        clear c4
        obtain rfl := Option.some.inj H
        go_enter Tryd.func117, Tryd.ntmps117
        go_wp2
        go_ret
        exact ⟨by first | rfl | (simp; done) | (simp [*]; done) | (simp; decide +kernel), by repeat (first | exact Drawn0.refl _ | apply Drawn0.step)⟩
      · rw [if_neg c4] at H
        have c4b0 : (a0 == 3) = false := beq_eq_false_iff_ne.mpr c4
        have c4b1 : (a0 != 3) = true := bne_iff_ne.mpr c4
        by_cases c5 : a0 = 4
        · rw [if_pos c5] at H
          have c5b0 : (a0 == 4) = true := beq_iff_eq.mpr c5
          have c5b1 : (a0 != 4) = false := bne_eq_false_iff_eq.mpr c5
          clear c5
          obtain rfl := Option.some.inj H
          go_enter Tryd.func117, Tryd.ntmps117
          go_wp2
          go_ret
          exact ⟨by first | rfl | (simp; done) | (simp [*]; done) | (simp; decide +kernel), by repeat (first | exact Drawn0.refl _ | apply Drawn0.step)⟩
        · rw [if_neg c5] at H
          have c5b0 : (a0 == 4) = false := beq_eq_false_iff_ne.mpr c5
          have c5b1 : (a0 != 4) = true := bne_iff_ne.mpr c5
          obtain rfl := Option.some.inj H
          go_enter Tryd.func117, Tryd.ntmps117
          go_wp2
          go_ret
          exact ⟨by first | rfl | (simp; done) | (simp [*]; done) | (simp; decide +kernel), by repeat (first | exact Drawn0.refl _ | apply Drawn0.step)⟩
end Go.Proofs.YtbgmnmjokdfmlaaDoor.PA
namespace Go.Proofs.YtbgmnmjokdfmlaaDoor.PA
open Go.RowKit Go.Proofs.YtbgmnmjokdfmlaaDoor.G Go.Proofs.YtbgmnmjokdfmlaaDoorW.PrintWords Go.Proofs.YtbgmnmjokdfmlaaDoorW.PrintLast Go.Proofs.YtbgmnmjokdfmlaaDoorW.PrintMore
set_option linter.unusedVariables false
set_option linter.unusedSimpArgs false
def bits_Put.f (l : List Int) (a0 a1 a2 : Int) : Option (List Int × Int × Int) :=
  if l.length ≤ 900000000 then (bits_Can.f l a0).bind fun b => if b = true then (if a2 < 0 then some ([], 0, 1) else if 64 < a2 then some ([], 0, 1) else (bits_add.f l a0 a1 a2).bind fun r => some (r.1, r.2, 0)) else some ([], 0, 1)
  else none
set_option maxHeartbeats 2000000 in
set_option maxRecDepth 100000 in
theorem bits_Put.calls (A0_0 : Option Addr) (c0_0 : Nat) (l0_0 : List Int) (a0_1 : Int) (a1 : Int) (a2 : Int) (r1 : List Int) (r2 : Int) (r3 : Int) (w : World) (hr0_0 : Kd.C (Kd.int .u8) w A0_0 l0_0.length l0_0) (hc0_0 : l0_0.length ≤ c0_0) (h : bits_Put.f l0_0 a0_1 a1 a2 = some (r1, r2, r3)) :
    Calls Tryd.prog 93 #[.agg #[.slice A0_0 l0_0.length c0_0, .int .i64 a0_1], .int .u64 a1, .int .i64 a2] w fun e w' => ∃ v0_ : Value, e = .returned (.tuple #[.agg #[v0_, .int .i64 r2], .int .i64 r3]) ∧ Kd.R (Kd.int .u8) 5 w' w.heap.size (fun _ => True) v0_ r1 ∧ Below w.heap.size w w' := by
  have hu24 := Tryd.underlying99
  unfold bits_Put.f at h
  split at h
  case isFalse => cases h
  case isTrue hlen =>
  obtain ⟨b, hcan, h⟩ := Option.bind_eq_some_iff.mp h
  have HR := Aside0.mk hr0_0
  have HC := Aside0.mk hc0_0
  have HL := Aside0.mk hlen
  have H := Aside0.mk h
  clear hr0_0 hc0_0 hlen h
  go_enter Tryd.func93, Tryd.ntmps93
  go_wp2_with (fail)
  refine (bits_Can.calls A0_0 c0_0 l0_0 a0_1 b _ ?c1 HC.out hcan).mono ?_
  case c1 => exact Kd.C_alloc (Kd.C_alloc HR.out _) _
  rintro e w1 ⟨rfl, hb⟩
  have BK0 := Aside0.mk (blk_below (g := w.heap.size) (o := .cells #[.slice A0_0 l0_0.length c0_0, .int .i64 a0_1] 99 (0, 0)) (blk_alloc (blk_new w _) _) hb)
  have BK1 := Aside0.mk (blk_below (g := w.heap.size + 1) (o := .cells #[.slice none 0 0, .int .i64 0] 99 (0, 0)) (by have := blk_new (w.alloc (.cells #[.slice A0_0 l0_0.length c0_0, .int .i64 a0_1] 99 (0, 0))) (.cells #[.slice none 0 0, .int .i64 0] 99 (0, 0)); rw [show (w.alloc (.cells #[.slice A0_0 l0_0.length c0_0, .int .i64 a0_1] 99 (0, 0))).heap.size = w.heap.size + 1 by simp] at this; exact this) hb)
  have HB := Aside0.mk (below_step (below_alloc (below_alloc (Below.refl w.heap.size w) _) _) hb)
  clear hb hcan
  have hz0 : w1.cell? ⟨w.heap.size, 0, none⟩ = some (.slice A0_0 l0_0.length c0_0) := blk_cell BK0.out 0
  have hz1 : w1.cell? ⟨w.heap.size, 1, none⟩ = some (.int .i64 a0_1) := blk_cell BK0.out 1
  have hy0 : w1.cell? ⟨w.heap.size + 1, 0, none⟩ = some (.slice none 0 0) := blk_cell BK1.out 0
  have hy1 : w1.cell? ⟨w.heap.size + 1, 1, none⟩ = some (.int .i64 0) := blk_cell BK1.out 1
  have hf0 := blk_frozen BK1.out 0
  have hf1 := blk_frozen BK1.out 1
  by_cases hbad : b = false ∨ a2 < 0 ∨ 64 < a2
  · have hr : r1 = [] ∧ r2 = 0 ∧ r3 = 1 := by
      have h_ := H.out
      split at h_
      case isFalse => simp only [Option.some.injEq, Prod.mk.injEq] at h_; obtain ⟨rfl, rfl, rfl⟩ := h_; exact ⟨rfl, rfl, rfl⟩
      case isTrue hb1 =>
        split at h_
        case isTrue => simp only [Option.some.injEq, Prod.mk.injEq] at h_; obtain ⟨rfl, rfl, rfl⟩ := h_; exact ⟨rfl, rfl, rfl⟩
        case isFalse h1 =>
          split at h_
          case isTrue => simp only [Option.some.injEq, Prod.mk.injEq] at h_; obtain ⟨rfl, rfl, rfl⟩ := h_; exact ⟨rfl, rfl, rfl⟩
          case isFalse h2 => rcases hbad with h3 | h3 | h3 <;> simp_all
    obtain ⟨rfl, rfl, rfl⟩ := hr
    clear H
    have key : ∀ (d1 d2 : Bool), decide (a2 < 0) = d1 → decide (64 < a2) = d2 → (b = false ∨ d1 = true ∨ d2 = true) → True := fun _ _ _ _ _ => trivial
    rcases Bool.eq_false_or_eq_true b with rfl | rfl
    · by_cases h1 : a2 < 0
      · have hd1 : decide (a2 < 0) = true := decide_eq_true h1
        clear hbad h1 key
        go_wp2_with (fail)
        refine bodyPost_ret (results_ct rfl _ _ (w.heap.size + 1) 99 #[.slice none 0 0, .int .i64 0] (0, 0) _ rfl (by (with_reducible repeat (first | refine blk_drewN ?_ _ | refine blk_drew ?_ | refine blk_alloc ?_ _)); refine blk_put (cs := #[.slice none 0 0, .int .i64 0]) ?_ 1 _ rfl; refine blk_put (cs := #[.slice none 0 0, .int .i64 0]) ?_ 0 _ rfl; exact BK1.out) Tryd.underlying99 rfl (by kernel_rfl)) rfl ?_
        exact ⟨_, rfl, Kd.R_nil _ _ _ _ _, (HB.out.setCell (p := ⟨w.heap.size + 1, 0, none⟩) (by simp) _).setCell (p := ⟨w.heap.size + 1, 1, none⟩) (by simp) _⟩
      · have hd1 : decide (a2 < 0) = false := decide_eq_false h1
        have hd2 : decide (64 < a2) = true := decide_eq_true (by rcases hbad with h | h | h; cases h; exact absurd h h1; exact h)
        clear hbad h1 key
        go_wp2_with (fail)
        refine bodyPost_ret (results_ct rfl _ _ (w.heap.size + 1) 99 #[.slice none 0 0, .int .i64 0] (0, 0) _ rfl (by (with_reducible repeat (first | refine blk_drewN ?_ _ | refine blk_drew ?_ | refine blk_alloc ?_ _)); refine blk_put (cs := #[.slice none 0 0, .int .i64 0]) ?_ 1 _ rfl; refine blk_put (cs := #[.slice none 0 0, .int .i64 0]) ?_ 0 _ rfl; exact BK1.out) Tryd.underlying99 rfl (by kernel_rfl)) rfl ?_
        exact ⟨_, rfl, Kd.R_nil _ _ _ _ _, (HB.out.setCell (p := ⟨w.heap.size + 1, 0, none⟩) (by simp) _).setCell (p := ⟨w.heap.size + 1, 1, none⟩) (by simp) _⟩
    · clear hbad key
      go_wp2_with (fail)
      refine bodyPost_ret (results_ct rfl _ _ (w.heap.size + 1) 99 #[.slice none 0 0, .int .i64 0] (0, 0) _ rfl (by (with_reducible repeat (first | refine blk_drewN ?_ _ | refine blk_drew ?_ | refine blk_alloc ?_ _)); refine blk_put (cs := #[.slice none 0 0, .int .i64 0]) ?_ 1 _ rfl; refine blk_put (cs := #[.slice none 0 0, .int .i64 0]) ?_ 0 _ rfl; exact BK1.out) Tryd.underlying99 rfl (by kernel_rfl)) rfl ?_
      exact ⟨_, rfl, Kd.R_nil _ _ _ _ _, (HB.out.setCell (p := ⟨w.heap.size + 1, 0, none⟩) (by simp) _).setCell (p := ⟨w.heap.size + 1, 1, none⟩) (by simp) _⟩
  · obtain ⟨rfl, h1, h2⟩ : b = true ∧ ¬ a2 < 0 ∧ ¬ 64 < a2 := by
      refine ⟨?_, fun h => hbad (.inr (.inl h)), fun h => hbad (.inr (.inr h))⟩
      cases b <;> simp_all
    have h_ := H.out
    rw [if_pos rfl, if_neg h1, if_neg h2] at h_
    obtain ⟨⟨q1, q2⟩, hadd, h_⟩ := Option.bind_eq_some_iff.mp h_
    simp only [Option.some.injEq, Prod.mk.injEq] at h_
    obtain ⟨rfl, rfl, rfl⟩ := h_
    have hd1 : decide (a2 < 0) = false := decide_eq_false h1
    have hd2 : decide (64 < a2) = false := decide_eq_false h2
    have HADD := Aside0.mk hadd
    clear hbad h1 h2 H hadd h_ h
    go_upto_region 3 with (fail)
    go_cut [8] (fun v8 wc => ∃ (gy : Nat) (v : Value), v8 = .pointer (some ⟨gy, 0, none⟩) ∧ Aside0 (wc.heap[gy]? = some (.cells #[v, .int .i64 a0_1] 99 (0, 0))) ∧ Aside0 (Kd.R (Kd.int .u8) 5 wc w.heap.size (fun _ => True) v l0_0) ∧ Aside0 (wc.heap[w.heap.size + 1]? = some (.cells #[.slice none 0 0, .int .i64 0] 99 (0, 0))) ∧ Aside0 (Below w.heap.size w wc) ∧ Aside0 (w.heap.size + 1 < gy))
    case first =>
      have hs0 := blk_lt BK0.out
      have hs1 := blk_lt BK1.out
      have HCL : Aside0 (bytes_Clone.f l0_0 = some l0_0) := ⟨by unfold bytes_Clone.f G.bytes_Clone.f; rw [if_pos (by have := HL.out; omega)]⟩
      go_region_with (first
        | (go_at_call 114; (with_reducible refine (bytes_Clone.calls A0_0 c0_0 l0_0 l0_0 w1.drew ?c1 HC.out HCL.out).mono ?_); (case c1 => exact Kd.C_drew (Kd.C_below HR.out HB.out)); rintro e w2 ⟨v, rfl, ho, hb⟩; have hz1 : w2.cell? ⟨w.heap.size, 1, none⟩ = some (.int .i64 a0_1) := blk_cell (blk_below (blk_drew BK0.out) hb) 1; have HO := Aside0.mk (Kd.R_lower ho (below_size (below_drew1 HB.out))); have HB2 := Aside0.mk (below_step (below_drew1 HB.out) hb); have BK2 := Aside0.mk (blk_below (blk_drew BK1.out) hb); have hs3 := Nat.lt_of_lt_of_le hs0 hb.size; have hs4 := Nat.lt_of_lt_of_le hs1 hb.size; have hs5 : w.heap.size < w2.heap.size := hs3; obtain ⟨A2, c2, e2⟩ := Kd.R_slice HO.out; subst e2; clear ho hb)
        | (go_at_call 114; (with_reducible refine (bytes_Clone.calls A0_0 c0_0 l0_0 l0_0 (w1.alloc (.cells #[.slice none 0 0, .int .i64 0] 99)).drew ?c1 HC.out HCL.out).mono ?_); (case c1 => exact Kd.C_drew (Kd.C_alloc (Kd.C_below HR.out HB.out) _)); rintro e w2 ⟨v, rfl, ho, hb⟩; have hz1 : w2.cell? ⟨w.heap.size, 1, none⟩ = some (.int .i64 a0_1) := blk_cell (blk_below (blk_drew (blk_alloc BK0.out _)) hb) 1; have HO := Aside0.mk (Kd.R_lower ho (below_size (below_drew1 (below_alloc HB.out _)))); have HB2 := Aside0.mk (below_step (below_drew1 (below_alloc HB.out _)) hb); have BK2 := Aside0.mk (blk_below (blk_drew (blk_alloc BK1.out _)) hb); have BKY := Aside0.mk (blk_below (blk_drew (blk_new w1 (.cells #[.slice none 0 0, .int .i64 0] 99))) hb); have hy2 : w2.cell? ⟨w1.heap.size, 0, none⟩ = some (.slice none 0 0) := blk_cell BKY.out 0; have hy3 : w2.cell? ⟨w1.heap.size, 1, none⟩ = some (.int .i64 0) := blk_cell BKY.out 1; have hy4 : w2.frozen? ⟨w1.heap.size, 0, none⟩ = false := blk_frozen BKY.out 0; have hy5 : w2.frozen? ⟨w1.heap.size, 1, none⟩ = false := blk_frozen BKY.out 1; obtain ⟨A2, c2, e2⟩ := Kd.R_slice HO.out; subst e2; clear ho hb))
      all_goals
        go_wp2_with fail
        go_meet
        case rel => first
          | exact ⟨w2.heap.size, .slice A2 l0_0.length c2, rfl, ⟨blk_new w2 _⟩, ⟨Kd.R_alloc HO.out _⟩, ⟨blk_alloc BK2.out _⟩, ⟨below_alloc HB2.out _⟩, ⟨hs4⟩⟩
          | exact ⟨w1.heap.size, .slice A2 l0_0.length c2, rfl, ⟨blk_put (cs := #[.slice A2 l0_0.length c2, .int .i64 0]) (blk_put (cs := #[.slice none 0 0, .int .i64 0]) BKY.out 0 _ rfl) 1 _ rfl⟩, ⟨Kd.R_mono (Kd.R_far (p := ⟨w1.heap.size, 1, none⟩) (Kd.R_far (p := ⟨w1.heap.size, 0, none⟩) (Kd.R_types HO.out BKY.out (by decide)) (fun _ hk => hk.2) _) (fun _ hk => hk.2) _) (fun _ _ => trivial)⟩, ⟨blk_far (p := ⟨w1.heap.size, 1, none⟩) (blk_far (p := ⟨w1.heap.size, 0, none⟩) BK2.out (Nat.ne_of_lt hs1) _) (Nat.ne_of_lt hs1) _⟩, ⟨(HB2.out.setCell (p := ⟨w1.heap.size, 0, none⟩) (below_size HB.out) _).setCell (p := ⟨w1.heap.size, 1, none⟩) (below_size HB.out) _⟩, ⟨hs1⟩⟩
    case rest =>
      clear BK0 BK1 hz0 hz1 hy0 hy1 hf0 hf1 HB
      obtain ⟨gy, v, rfl, BKY, HO, BK1, HB, HGY⟩ := hcut
      go_wp2_with (fail)
      refine (bits_add.calls w.heap.size gy w v l0_0 a0_1 a1 a2 q1 q2 wc HO.out BKY.out (by have := HGY.out; omega) HB.out HADD.out).mono ?_
      rintro e w3 ⟨v3, rfl, hg3, ho3, hb3, hk3⟩
      have BKY3 := Aside0.mk hg3
      have HO3 := Aside0.mk ho3
      have HB3 := Aside0.mk hb3
      have BK3 := Aside0.mk (hk3 _ _ _ (Nat.ne_of_lt HGY.out) (by decide) BK1.out)
      clear hg3 ho3 hb3 hk3 BKY HO HB BK1
      have hne := Nat.ne_of_lt HGY.out
      have hne' := Ne.symm hne
      obtain ⟨A3, c3, e3⟩ := Kd.R_slice HO3.out
      subst e3
      have hz0 : w3.cell? ⟨gy, 0, none⟩ = some (.slice A3 q1.length c3) := blk_cell BKY3.out 0
      have hz1 : w3.cell? ⟨gy, 1, none⟩ = some (.int .i64 q2) := blk_cell BKY3.out 1
      have hy0 : w3.cell? ⟨w.heap.size + 1, 0, none⟩ = some (.slice none 0 0) := blk_cell BK3.out 0
      have hy1 : w3.cell? ⟨w.heap.size + 1, 1, none⟩ = some (.int .i64 0) := blk_cell BK3.out 1
      have hf0 := blk_frozen BK3.out 0
      have hf1 := blk_frozen BK3.out 1
      go_wp2_with (fail)
      refine bodyPost_ret (results_ct rfl _ _ (w.heap.size + 1) 99 #[.slice A3 q1.length c3, .int .i64 q2] (0, 0) _ rfl (by (with_reducible repeat (first | refine blk_drewN ?_ _ | refine blk_drew ?_ | refine blk_alloc ?_ _)); refine blk_put (cs := #[.slice A3 q1.length c3, .int .i64 0]) ?_ 1 _ rfl; refine blk_put (cs := #[.slice none 0 0, .int .i64 0]) ?_ 0 _ rfl; exact BK3.out) Tryd.underlying99 rfl (by kernel_rfl)) rfl ?_
      exact ⟨_, rfl, Kd.R_mono (Kd.R_far (p := ⟨w.heap.size + 1, 1, none⟩) (Kd.R_far (p := ⟨w.heap.size + 1, 0, none⟩) (Kd.R_types HO3.out BK3.out (by decide)) (fun _ hk => hk.2) _) (fun _ hk => hk.2) _) (fun _ _ => trivial), (HB3.out.setCell (p := ⟨w.heap.size + 1, 0, none⟩) (by simp) _).setCell (p := ⟨w.heap.size + 1, 1, none⟩) (by simp) _⟩
end Go.Proofs.YtbgmnmjokdfmlaaDoor.PA
namespace Go.Proofs.YtbgmnmjokdfmlaaDoor.PA
open Go.RowKit Go.Proofs.YtbgmnmjokdfmlaaDoor.G Go.Proofs.YtbgmnmjokdfmlaaDoorW.PrintWords Go.Proofs.YtbgmnmjokdfmlaaDoorW.PrintLast Go.Proofs.YtbgmnmjokdfmlaaDoorW.PrintMore
set_option linter.unusedVariables false
set_option linter.unusedSimpArgs false
def classN (n : Int) : Int := if n = 0 then 0 else if -64 ≤ n ∧ n < 64 then 1 else if -2048 ≤ n ∧ n < 2048 then 2 else if -2147483648 ≤ n ∧ n < 2147483648 then 3 else 4
def widthN (k : Int) : Int := if k = 1 then 7 else if k = 2 then 12 else if k = 3 then 32 else if k = 4 then 64 else 0
theorem classN_range (n : Int) : 0 ≤ classN n ∧ classN n ≤ 4 := by
  unfold classN
  repeat' split
  all_goals omega
theorem class_eq (n : Int) : bits_class.f 8 n = some (classN n) := by
  have e1 : wrap64 1 = 1 := by decide +kernel
  have e2 : wrap64 2 = 2 := by decide +kernel
  have e3 : wrap64 3 = 3 := by decide +kernel
  unfold bits_class.f classN
  by_cases a1 : n = 0 <;> by_cases a2 : -64 ≤ n <;> by_cases a3 : n < 64 <;> by_cases a4 : -2048 ≤ n <;> by_cases a5 : n < 2048 <;> by_cases a6 : -2147483648 ≤ n <;> by_cases a7 : n < 2147483648
  all_goals first
    | (exfalso; omega)
    | simp [bits_class.j0, bits_class.j1, e1, e2, e3, a1, a2, a3, a4, a5, a6, a7]
theorem width_eq (k : Int) : bits_width.f k = some (widthN k) := by
  unfold bits_width.f widthN
  repeat' split
  all_goals first | rfl | omega
def bits_PutInt.f (l : List Int) (a0 a1 : Int) : Option (List Int × Int × Int) :=
  if l.length ≤ 900000000 then (bits_Can.f l a0).bind fun b => if b = true then
    (bits_add.f l a0 (IntKind.u64.wrap (shl .u64 1 (classN a1) - 1)) (classN a1)).bind fun r =>
      (if classN a1 < 4 then bits_add.f r.1 r.2 0 1 else some r).bind fun s =>
        (bits_add.f s.1 s.2 (IntKind.u64.wrap a1) (widthN (classN a1))).bind fun t => some (t.1, t.2, 0)
    else some ([], 0, 1)
  else none
set_option maxHeartbeats 2000000 in
set_option maxRecDepth 100000 in
theorem bits_PutInt.calls (A0_0 : Option Addr) (c0_0 : Nat) (l0_0 : List Int) (a0_1 : Int) (a1 : Int) (r1 : List Int) (r2 : Int) (r3 : Int) (w : World) (hr0_0 : Kd.C (Kd.int .u8) w A0_0 l0_0.length l0_0) (hc0_0 : l0_0.length ≤ c0_0) (h : bits_PutInt.f l0_0 a0_1 a1 = some (r1, r2, r3)) :
    Calls Tryd.prog 94 #[.agg #[.slice A0_0 l0_0.length c0_0, .int .i64 a0_1], .int .i64 a1] w fun e w' => ∃ v0_ : Value, e = .returned (.tuple #[.agg #[v0_, .int .i64 r2], .int .i64 r3]) ∧ Kd.R (Kd.int .u8) 5 w' w.heap.size (fun _ => True) v0_ r1 ∧ Below w.heap.size w w' := by
  have hu24 := Tryd.underlying99
  unfold bits_PutInt.f at h
  split at h
  case isFalse => cases h
  case isTrue hlen =>
  obtain ⟨b, hcan, h⟩ := Option.bind_eq_some_iff.mp h
  have HR := Aside0.mk hr0_0
  have HC := Aside0.mk hc0_0
  have HL := Aside0.mk hlen
  have H := Aside0.mk h
  clear hr0_0 hc0_0 hlen h
  go_enter Tryd.func94, Tryd.ntmps94
  go_wp2_with (fail)
  refine (bits_Can.calls A0_0 c0_0 l0_0 a0_1 b _ ?c1 HC.out hcan).mono ?_
  case c1 => exact Kd.C_alloc (Kd.C_alloc HR.out _) _
  rintro e w1 ⟨rfl, hb⟩
  have BK0 := Aside0.mk (blk_below (g := w.heap.size) (o := .cells #[.slice A0_0 l0_0.length c0_0, .int .i64 a0_1] 99 (0, 0)) (blk_alloc (blk_new w _) _) hb)
  have BK1 := Aside0.mk (blk_below (g := w.heap.size + 1) (o := .cells #[.slice none 0 0, .int .i64 0] 99 (0, 0)) (by have := blk_new (w.alloc (.cells #[.slice A0_0 l0_0.length c0_0, .int .i64 a0_1] 99 (0, 0))) (.cells #[.slice none 0 0, .int .i64 0] 99 (0, 0)); rw [show (w.alloc (.cells #[.slice A0_0 l0_0.length c0_0, .int .i64 a0_1] 99 (0, 0))).heap.size = w.heap.size + 1 by simp] at this; exact this) hb)
  have HB := Aside0.mk (below_step (below_alloc (below_alloc (Below.refl w.heap.size w) _) _) hb)
  clear hb hcan
  have hz0 : w1.cell? ⟨w.heap.size, 0, none⟩ = some (.slice A0_0 l0_0.length c0_0) := blk_cell BK0.out 0
  have hz1 : w1.cell? ⟨w.heap.size, 1, none⟩ = some (.int .i64 a0_1) := blk_cell BK0.out 1
  have hy0 : w1.cell? ⟨w.heap.size + 1, 0, none⟩ = some (.slice none 0 0) := blk_cell BK1.out 0
  have hy1 : w1.cell? ⟨w.heap.size + 1, 1, none⟩ = some (.int .i64 0) := blk_cell BK1.out 1
  have hf0 := blk_frozen BK1.out 0
  have hf1 := blk_frozen BK1.out 1
  rcases Bool.eq_false_or_eq_true b with rfl | rfl
  case inr =>
    have hr : r1 = [] ∧ r2 = 0 ∧ r3 = 1 := by
      have h_ := H.out
      rw [if_neg (by decide)] at h_
      simp only [Option.some.injEq, Prod.mk.injEq] at h_; obtain ⟨rfl, rfl, rfl⟩ := h_; exact ⟨rfl, rfl, rfl⟩
    obtain ⟨rfl, rfl, rfl⟩ := hr
    clear H
    go_wp2_with (fail)
    refine bodyPost_ret (results_ct rfl _ _ (w.heap.size + 1) 99 #[.slice none 0 0, .int .i64 0] (0, 0) _ rfl (by (with_reducible repeat (first | refine blk_drewN ?_ _ | refine blk_drew ?_ | refine blk_alloc ?_ _)); refine blk_put (cs := #[.slice none 0 0, .int .i64 0]) ?_ 1 _ rfl; refine blk_put (cs := #[.slice none 0 0, .int .i64 0]) ?_ 0 _ rfl; exact BK1.out) Tryd.underlying99 rfl (by kernel_rfl)) rfl ?_
    exact ⟨_, rfl, Kd.R_nil _ _ _ _ _, (HB.out.setCell (p := ⟨w.heap.size + 1, 0, none⟩) (by simp) _).setCell (p := ⟨w.heap.size + 1, 1, none⟩) (by simp) _⟩
  case inl =>
    have h0_ := H.out
    rw [if_pos rfl] at h0_
    obtain ⟨⟨s1, s2⟩, hadd1, h1_⟩ := Option.bind_eq_some_iff.mp h0_
    obtain ⟨⟨s3, s4⟩, hadd2, h2_⟩ := Option.bind_eq_some_iff.mp h1_
    obtain ⟨⟨q1, q2⟩, hadd3, h3_⟩ := Option.bind_eq_some_iff.mp h2_
    simp only [Option.some.injEq, Prod.mk.injEq] at h3_
    obtain ⟨rfl, rfl, rfl⟩ := h3_
    have HADD1 := Aside0.mk hadd1
    have HADD2 := Aside0.mk hadd2
    have HADD3 := Aside0.mk hadd3
    clear H hadd1 hadd2 hadd3 h0_ h1_ h2_ h
    go_upto_region 3 with (fail)
    go_cut [6] (fun v6 wc => ∃ (gy : Nat) (v : Value), v6 = .pointer (some ⟨gy, 0, none⟩) ∧ Aside0 (wc.heap[gy]? = some (.cells #[v, .int .i64 a0_1] 99 (0, 0))) ∧ Aside0 (Kd.R (Kd.int .u8) 5 wc w.heap.size (fun _ => True) v l0_0) ∧ Aside0 (wc.heap[w.heap.size + 1]? = some (.cells #[.slice none 0 0, .int .i64 0] 99 (0, 0))) ∧ Aside0 (Below w.heap.size w wc) ∧ Aside0 (w.heap.size + 1 < gy))
    case first =>
      have hs0 := blk_lt BK0.out
      have hs1 := blk_lt BK1.out
      have HCL : Aside0 (bytes_Clone.f l0_0 = some l0_0) := ⟨by unfold bytes_Clone.f G.bytes_Clone.f; rw [if_pos (by have := HL.out; omega)]⟩
      go_region_with (first
        | (go_at_call 114; (with_reducible refine (bytes_Clone.calls A0_0 c0_0 l0_0 l0_0 w1.drew ?c1 HC.out HCL.out).mono ?_); (case c1 => exact Kd.C_drew (Kd.C_below HR.out HB.out)); rintro e w2 ⟨v, rfl, ho, hb⟩; have hz1 : w2.cell? ⟨w.heap.size, 1, none⟩ = some (.int .i64 a0_1) := blk_cell (blk_below (blk_drew BK0.out) hb) 1; have HO := Aside0.mk (Kd.R_lower ho (below_size (below_drew1 HB.out))); have HB2 := Aside0.mk (below_step (below_drew1 HB.out) hb); have BK2 := Aside0.mk (blk_below (blk_drew BK1.out) hb); have hs3 := Nat.lt_of_lt_of_le hs0 hb.size; have hs4 := Nat.lt_of_lt_of_le hs1 hb.size; have hs5 : w.heap.size < w2.heap.size := hs3; obtain ⟨A2, c2, e2⟩ := Kd.R_slice HO.out; subst e2; clear ho hb)
        | (go_at_call 114; (with_reducible refine (bytes_Clone.calls A0_0 c0_0 l0_0 l0_0 (w1.alloc (.cells #[.slice none 0 0, .int .i64 0] 99)).drew ?c1 HC.out HCL.out).mono ?_); (case c1 => exact Kd.C_drew (Kd.C_alloc (Kd.C_below HR.out HB.out) _)); rintro e w2 ⟨v, rfl, ho, hb⟩; have hz1 : w2.cell? ⟨w.heap.size, 1, none⟩ = some (.int .i64 a0_1) := blk_cell (blk_below (blk_drew (blk_alloc BK0.out _)) hb) 1; have HO := Aside0.mk (Kd.R_lower ho (below_size (below_drew1 (below_alloc HB.out _)))); have HB2 := Aside0.mk (below_step (below_drew1 (below_alloc HB.out _)) hb); have BK2 := Aside0.mk (blk_below (blk_drew (blk_alloc BK1.out _)) hb); have BKY := Aside0.mk (blk_below (blk_drew (blk_new w1 (.cells #[.slice none 0 0, .int .i64 0] 99))) hb); have hy2 : w2.cell? ⟨w1.heap.size, 0, none⟩ = some (.slice none 0 0) := blk_cell BKY.out 0; have hy3 : w2.cell? ⟨w1.heap.size, 1, none⟩ = some (.int .i64 0) := blk_cell BKY.out 1; have hy4 : w2.frozen? ⟨w1.heap.size, 0, none⟩ = false := blk_frozen BKY.out 0; have hy5 : w2.frozen? ⟨w1.heap.size, 1, none⟩ = false := blk_frozen BKY.out 1; obtain ⟨A2, c2, e2⟩ := Kd.R_slice HO.out; subst e2; clear ho hb))
      all_goals
        go_wp2_with fail
        go_meet
        case rel => first
          | exact ⟨w2.heap.size, .slice A2 l0_0.length c2, rfl, ⟨blk_new w2 _⟩, ⟨Kd.R_alloc HO.out _⟩, ⟨blk_alloc BK2.out _⟩, ⟨below_alloc HB2.out _⟩, ⟨hs4⟩⟩
          | exact ⟨w1.heap.size, .slice A2 l0_0.length c2, rfl, ⟨blk_put (cs := #[.slice A2 l0_0.length c2, .int .i64 0]) (blk_put (cs := #[.slice none 0 0, .int .i64 0]) BKY.out 0 _ rfl) 1 _ rfl⟩, ⟨Kd.R_mono (Kd.R_far (p := ⟨w1.heap.size, 1, none⟩) (Kd.R_far (p := ⟨w1.heap.size, 0, none⟩) (Kd.R_types HO.out BKY.out (by decide)) (fun _ hk => hk.2) _) (fun _ hk => hk.2) _) (fun _ _ => trivial)⟩, ⟨blk_far (p := ⟨w1.heap.size, 1, none⟩) (blk_far (p := ⟨w1.heap.size, 0, none⟩) BK2.out (Nat.ne_of_lt hs1) _) (Nat.ne_of_lt hs1) _⟩, ⟨(HB2.out.setCell (p := ⟨w1.heap.size, 0, none⟩) (below_size HB.out) _).setCell (p := ⟨w1.heap.size, 1, none⟩) (below_size HB.out) _⟩, ⟨hs1⟩⟩
    case rest =>
      clear BK0 BK1 hz0 hz1 hy0 hy1 hf0 hf1 HB
      obtain ⟨gy, v, rfl, BKY, HO, BK1, HB, HGY⟩ := hcut
      have hsz1 := blk_lt BK1.out
      go_wp2_with (fail)
      refine (bits_class.calls 8 a1 _ _ (class_eq a1)).mono ?_
      rintro e w3 ⟨rfl, ⟨n3, rfl⟩⟩
      have HCL := Aside0.mk (classN_range a1)
      have HA1 := HADD1
      generalize classN a1 = k at HCL HADD1 HADD2 HADD3 HA1
      have hk0 := eq_true HCL.out.1
      obtain ⟨S2, hS2⟩ : ∃ S, shl .u64 1 k = S := ⟨_, rfl⟩
      have hS2u : IntKind.u64.wrap (2 ^ min k.toNat 64) = S2 := by have h_ : IntKind.u64.wrap (1 * 2 ^ min k.toNat 64) = S2 := hS2; rw [Int.one_mul] at h_; exact h_
      have hS2v : k ≤ 64 → IntKind.u64.wrap (2 ^ k.toNat) = S2 := fun hle_ => by have h_ := shl_small (k := .u64) hS2 hle_; rw [Int.one_mul] at h_; exact h_
      replace HADD1 : Aside0 (bits_add.f l0_0 a0_1 (IntKind.u64.wrap (S2 - 1)) k = some (s1, s2)) := ⟨by rw [← hS2]; exact HADD1.out⟩
      clear HA1 hS2
      go_wp2_with (fail)
      refine (bits_add.calls w.heap.size gy w _ l0_0 a0_1 (IntKind.u64.wrap (S2 - 1)) k s1 s2 _ (Kd.R_drewN HO.out n3) (blk_drewN BKY.out n3) (by have := HGY.out; omega) (pw_below_drewN HB.out n3) HADD1.out).mono ?_
      rintro e w4 ⟨v4, rfl, hg3, ho3, hb3, hk3⟩
      have BKY4 := Aside0.mk hg3
      have HO4 := Aside0.mk ho3
      have HB4 := Aside0.mk hb3
      have BK4 := Aside0.mk (hk3 _ _ _ (Nat.ne_of_lt HGY.out) (by decide) (blk_drewN BK1.out n3))
      clear hg3 ho3 hb3 hk3
      clear BKY HO HB BK1 HADD1
      by_cases hk4 : k < 4
      · have hd4 : decide (k < 4) = true := decide_eq_true hk4
        replace HADD2 : Aside0 (bits_add.f s1 s2 0 1 = some (s3, s4)) := ⟨by have h_ := HADD2.out; rw [if_pos hk4] at h_; exact h_⟩
        clear hk4
        go_wp2_with (fail)
        refine (bits_add.calls w.heap.size gy w _ s1 s2 0 1 s3 s4 _ HO4.out BKY4.out (by have := HGY.out; omega) HB4.out HADD2.out).mono ?_
        rintro e w5 ⟨v5, rfl, hg3, ho3, hb3, hk3⟩
        have BKY5 := Aside0.mk hg3
        have HO5 := Aside0.mk ho3
        have HB5 := Aside0.mk hb3
        have BK5 := Aside0.mk (hk3 _ _ _ (Nat.ne_of_lt HGY.out) (by decide) BK4.out)
        clear hg3 ho3 hb3 hk3
        go_wp2_with (fail)
        refine (bits_width.calls k _ _ (width_eq k)).mono ?_
        rintro e wq ⟨rfl, ⟨nq, rfl⟩⟩
        go_wp2_with (fail)
        refine (bits_add.calls w.heap.size gy w _ s3 s4 (IntKind.u64.wrap a1) (widthN k) q1 q2 _ (Kd.R_drewN HO5.out _) (blk_drewN BKY5.out _) (by have := HGY.out; omega) (pw_below_drewN HB5.out _) HADD3.out).mono ?_
        rintro e w9 ⟨v9, rfl, hg3, ho3, hb3, hk3⟩
        have BKY9 := Aside0.mk hg3
        have HO9 := Aside0.mk ho3
        have HB9 := Aside0.mk hb3
        have BK9 := Aside0.mk (hk3 _ _ _ (Nat.ne_of_lt HGY.out) (by decide) (blk_drewN BK5.out _))
        clear hg3 ho3 hb3 hk3
        have hne := Nat.ne_of_lt HGY.out
        have hne' := Ne.symm hne
        obtain ⟨A3, c3, e3⟩ := Kd.R_slice HO9.out
        subst e3
        have hz0 : w9.cell? ⟨gy, 0, none⟩ = some (.slice A3 q1.length c3) := blk_cell BKY9.out 0
        have hz1 : w9.cell? ⟨gy, 1, none⟩ = some (.int .i64 q2) := blk_cell BKY9.out 1
        have hy0 : w9.cell? ⟨w.heap.size + 1, 0, none⟩ = some (.slice none 0 0) := blk_cell BK9.out 0
        have hy1 : w9.cell? ⟨w.heap.size + 1, 1, none⟩ = some (.int .i64 0) := blk_cell BK9.out 1
        have hf0 := blk_frozen BK9.out 0
        have hf1 := blk_frozen BK9.out 1
        go_wp2_with (fail)
        refine bodyPost_ret (results_ct rfl _ _ (w.heap.size + 1) 99 #[.slice A3 q1.length c3, .int .i64 q2] (0, 0) _ rfl (by (with_reducible repeat (first | refine blk_drewN ?_ _ | refine blk_drew ?_ | refine blk_alloc ?_ _)); refine blk_put (cs := #[.slice A3 q1.length c3, .int .i64 0]) ?_ 1 _ rfl; refine blk_put (cs := #[.slice none 0 0, .int .i64 0]) ?_ 0 _ rfl; exact BK9.out) Tryd.underlying99 rfl (by kernel_rfl)) rfl ?_
        exact ⟨_, rfl, Kd.R_mono (Kd.R_far (p := ⟨w.heap.size + 1, 1, none⟩) (Kd.R_far (p := ⟨w.heap.size + 1, 0, none⟩) (Kd.R_types HO9.out BK9.out (by decide)) (fun _ hk => hk.2) _) (fun _ hk => hk.2) _) (fun _ _ => trivial), (HB9.out.setCell (p := ⟨w.heap.size + 1, 0, none⟩) (by simp) _).setCell (p := ⟨w.heap.size + 1, 1, none⟩) (by simp) _⟩
      · have hd4 : decide (k < 4) = false := decide_eq_false hk4
        have he : s1 = s3 ∧ s2 = s4 := by have h_ := HADD2.out; rw [if_neg hk4] at h_; simpa using h_
        obtain ⟨rfl, rfl⟩ := he
        clear hk4 HADD2
        go_wp2_with (fail)
        refine (bits_width.calls k _ _ (width_eq k)).mono ?_
        rintro e wq ⟨rfl, ⟨nq, rfl⟩⟩
        go_wp2_with (fail)
        refine (bits_add.calls w.heap.size gy w _ s1 s2 (IntKind.u64.wrap a1) (widthN k) q1 q2 _ (Kd.R_drewN HO4.out _) (blk_drewN BKY4.out _) (by have := HGY.out; omega) (pw_below_drewN HB4.out _) HADD3.out).mono ?_
        rintro e w9 ⟨v9, rfl, hg3, ho3, hb3, hk3⟩
        have BKY9 := Aside0.mk hg3
        have HO9 := Aside0.mk ho3
        have HB9 := Aside0.mk hb3
        have BK9 := Aside0.mk (hk3 _ _ _ (Nat.ne_of_lt HGY.out) (by decide) (blk_drewN BK4.out _))
        clear hg3 ho3 hb3 hk3
        have hne := Nat.ne_of_lt HGY.out
        have hne' := Ne.symm hne
        obtain ⟨A3, c3, e3⟩ := Kd.R_slice HO9.out
        subst e3
        have hz0 : w9.cell? ⟨gy, 0, none⟩ = some (.slice A3 q1.length c3) := blk_cell BKY9.out 0
        have hz1 : w9.cell? ⟨gy, 1, none⟩ = some (.int .i64 q2) := blk_cell BKY9.out 1
        have hy0 : w9.cell? ⟨w.heap.size + 1, 0, none⟩ = some (.slice none 0 0) := blk_cell BK9.out 0
        have hy1 : w9.cell? ⟨w.heap.size + 1, 1, none⟩ = some (.int .i64 0) := blk_cell BK9.out 1
        have hf0 := blk_frozen BK9.out 0
        have hf1 := blk_frozen BK9.out 1
        go_wp2_with (fail)
        refine bodyPost_ret (results_ct rfl _ _ (w.heap.size + 1) 99 #[.slice A3 q1.length c3, .int .i64 q2] (0, 0) _ rfl (by (with_reducible repeat (first | refine blk_drewN ?_ _ | refine blk_drew ?_ | refine blk_alloc ?_ _)); refine blk_put (cs := #[.slice A3 q1.length c3, .int .i64 0]) ?_ 1 _ rfl; refine blk_put (cs := #[.slice none 0 0, .int .i64 0]) ?_ 0 _ rfl; exact BK9.out) Tryd.underlying99 rfl (by kernel_rfl)) rfl ?_
        exact ⟨_, rfl, Kd.R_mono (Kd.R_far (p := ⟨w.heap.size + 1, 1, none⟩) (Kd.R_far (p := ⟨w.heap.size + 1, 0, none⟩) (Kd.R_types HO9.out BK9.out (by decide)) (fun _ hk => hk.2) _) (fun _ hk => hk.2) _) (fun _ _ => trivial), (HB9.out.setCell (p := ⟨w.heap.size + 1, 0, none⟩) (by simp) _).setCell (p := ⟨w.heap.size + 1, 1, none⟩) (by simp) _⟩
end Go.Proofs.YtbgmnmjokdfmlaaDoor.PA
namespace Go.Proofs.YtbgmnmjokdfmlaaDoor.PA
open Go.RowKit Go.Proofs.YtbgmnmjokdfmlaaDoorW.PrintWords Go.Proofs.YtbgmnmjokdfmlaaDoorW.PrintLast Go.Proofs.YtbgmnmjokdfmlaaDoorW.PrintMore
attribute [local go_sem] max2_int min2_int max_two min_two max_three min_three max_four min_four   -- for this text's walks alone
set_option linter.unusedVariables false
set_option linter.unusedSimpArgs false
mutual
def bits_Take.j0 : Nat → Int → Int → Bool → List Int → Int → Option (Int × Int)
  | 0, _, _, _, _, _ => none
  | k + 1, x1, x2, x11, x134000, x134001 => if x11 = true then (some (0, 1)) else (if (wrap64 (x134001 - x1)) < x2 then (some (0, 3)) else (bits_Take.l0 k x1 x2 0 x134000 x134001))
def bits_Take.l0 : Nat → Int → Int → Int → List Int → Int → Option (Int × Int)
  | 0, _, _, _, _, _ => none
  | k + 1, x1, x2, x8, x134000, x134001 => if x2 > 0 then (if 0 ≤ (mn (wrap64 (8 - (Int.tmod x1 8))) x2) then (if 0 ≤ (wrap64 (Int.tdiv x1 8)) then (if (wrap64 (Int.tdiv x1 8)) < (x134000.length : Int) then (if 0 ≤ (wrap64 ((wrap64 (8 - (Int.tmod x1 8))) - (mn (wrap64 (8 - (Int.tmod x1 8))) x2))) then (bits_Take.l0 k (wrap64 (x1 + (mn (wrap64 (8 - (Int.tmod x1 8))) x2))) (wrap64 (x2 - (mn (wrap64 (8 - (Int.tmod x1 8))) x2))) (Go.bits .or .u64 (shl .u64 x8 (mn (wrap64 (8 - (Int.tmod x1 8))) x2)) (IntKind.u64.wrap (Go.bits .and .u8 (shr .u8 (rd x134000 (wrap64 (Int.tdiv x1 8))) (wrap64 ((wrap64 (8 - (Int.tmod x1 8))) - (mn (wrap64 (8 - (Int.tmod x1 8))) x2)))) (((shl .u8 1 (mn (wrap64 (8 - (Int.tmod x1 8))) x2)) - 1) % 256)))) x134000 x134001) else (none)) else (none)) else (none)) else (none)) else (some (x8, 0))
end
def bits_Take.f (k : Nat) (l0_0 : List Int) (a0_1 : Int) (a1 : Int) (a2 : Int) : Option (Int × Int) := (bits_Can.f l0_0 a0_1).bind fun t134 => (if t134 = true then (if a2 < 0 then (bits_Take.j0 k a1 a2 true l0_0 a0_1) else (if a2 > 64 then (bits_Take.j0 k a1 a2 true l0_0 a0_1) else (if a1 < 0 then (bits_Take.j0 k a1 a2 true l0_0 a0_1) else (bits_Take.j0 k a1 a2 (decide (a1 > a0_1)) l0_0 a0_1)))) else (bits_Take.j0 k a1 a2 true l0_0 a0_1))
theorem bits_Take.mono_l : ∀ k, (∀ y0 y1 y2 y3 y4, LeO (bits_Take.j0 k y0 y1 y2 y3 y4) (bits_Take.j0 (k + 1) y0 y1 y2 y3 y4)) ∧ (∀ y0 y1 y2 y3 y4, LeO (bits_Take.l0 k y0 y1 y2 y3 y4) (bits_Take.l0 (k + 1) y0 y1 y2 y3 y4))
  | 0 => ⟨fun _ _ _ _ _ r h => by simp [bits_Take.j0] at h, fun _ _ _ _ _ r h => by simp [bits_Take.l0] at h⟩
  | k + 1 => by
    obtain ⟨ih0, ih1⟩ := bits_Take.mono_l k
    refine ⟨?_, ?_⟩
    · intro y0 y1 y2 y3 y4
      unfold bits_Take.j0
      repeat' first
      | (with_reducible exact ih0 _ _ _ _ _)
      | (with_reducible exact ih1 _ _ _ _ _)
      | (with_reducible exact LeO.refl _)
      | (with_reducible exact LeO.none _)
      | (with_reducible refine LeO.ite ?_ ?_)
      | (with_reducible refine LeO.bind ?_ (fun _ => ?_))
      | exact ih0 _ _ _ _ _
      | exact ih1 _ _ _ _ _
      | exact LeO.none _
      | refine LeO.ite ?_ ?_
      | refine LeO.bind ?_ (fun _ => ?_)
    · intro y0 y1 y2 y3 y4
      unfold bits_Take.l0
      repeat' first
      | (with_reducible exact ih0 _ _ _ _ _)
      | (with_reducible exact ih1 _ _ _ _ _)
      | (with_reducible exact LeO.refl _)
      | (with_reducible exact LeO.none _)
      | (with_reducible refine LeO.ite ?_ ?_)
      | (with_reducible refine LeO.bind ?_ (fun _ => ?_))
      | exact ih0 _ _ _ _ _
      | exact ih1 _ _ _ _ _
      | exact LeO.none _
      | refine LeO.ite ?_ ?_
      | refine LeO.bind ?_ (fun _ => ?_)
theorem bits_Take.mono : ∀ a0 a1 a2 a3 k, LeO (bits_Take.f k a0 a1 a2 a3) (bits_Take.f (k + 1) a0 a1 a2 a3) := by
  intro a0 a1 a2 a3 k
  obtain ⟨ih0, ih1⟩ := bits_Take.mono_l k
  unfold bits_Take.f
  repeat' first
      | (with_reducible exact ih0 _ _ _ _ _)
      | (with_reducible exact ih1 _ _ _ _ _)
      | (with_reducible exact LeO.refl _)
      | (with_reducible exact LeO.none _)
      | (with_reducible refine LeO.ite ?_ ?_)
      | (with_reducible refine LeO.bind ?_ (fun _ => ?_))
      | exact ih0 _ _ _ _ _
      | exact ih1 _ _ _ _ _
      | exact LeO.none _
      | refine LeO.ite ?_ ?_
      | refine LeO.bind ?_ (fun _ => ?_)
set_option maxHeartbeats 8000000 in
set_option maxRecDepth 100000 in
theorem bits_Take.calls (k : Nat) (A0_0 : Option Addr) (c0_0 : Nat) (l0_0 : List Int) (a0_1 : Int) (a1 : Int) (a2 : Int) (r1 : Int) (r2 : Int) (w : World) (hr0_0 : Kd.C (Kd.int .u8) w A0_0 l0_0.length l0_0) (hc0_0 : l0_0.length ≤ c0_0) (h : bits_Take.f k l0_0 a0_1 a1 a2 = some (r1, r2)) :
    Calls Tryd.prog 111 #[.agg #[.slice A0_0 l0_0.length c0_0, .int .i64 a0_1], .int .i64 a1, .int .i64 a2] w fun e w' => e = .returned (.tuple #[.int .u64 r1, .int .i64 r2]) ∧ Below w.heap.size w w' := by
  have hu99 := Tryd.underlying99
  have HR0_0 := Aside0.mk hr0_0
  have HC0_0 := Aside0.mk hc0_0
  clear hr0_0 hc0_0
  have HB := Aside0.mk (Below.refl w.heap.size w)
  have H : ((bits_Can.f l0_0 a0_1).bind fun t134 => (if t134 = true then (if a2 < 0 then (bits_Take.j0 k a1 a2 true l0_0 a0_1) else (if a2 > 64 then (bits_Take.j0 k a1 a2 true l0_0 a0_1) else (if a1 < 0 then (bits_Take.j0 k a1 a2 true l0_0 a0_1) else (bits_Take.j0 k a1 a2 (decide (a1 > a0_1)) l0_0 a0_1)))) else (bits_Take.j0 k a1 a2 true l0_0 a0_1))) = some (r1, r2) := h
  clear h
  have HC4 := Aside0.mk H
  clear H
  go_enter Tryd.func111, Tryd.ntmps111
  go_upto_region 1 with (first | ((with_reducible refine gate_dst (N := 3) rfl ?_); refine box_event ?hg (N := 3) ?hd (cs := #[.slice A0_0 l0_0.length c0_0, .int .i64 a0_1]) (t := 99) ?hr ?_; (case hd => rfl); (case hg => rfl); (case hr => first | (go_simp; done) | (go_simp; rfl)); intro gb133 hg w5 hbox hb; have n0_ := Aside0.mk (below_step (by repeat (first | (with_reducible first | exact HB.out | apply below_alloc | apply pw_below_drewN | apply below_drew1) | exact HB.out)) hb); have n1_ := Aside0.mk (hbox); have n2_ := Aside0.mk ((by rw [hg]; exact (below_size (by repeat (first | (with_reducible first | exact HB.out | apply below_alloc | apply pw_below_drewN | apply below_drew1) | exact HB.out))) : w.heap.size ≤ gb133)); have n3_ := Aside0.mk ((by rw [hg]; exact (below_size (by repeat (first | (with_reducible first | exact HB.out | apply below_alloc | apply pw_below_drewN | apply below_drew1) | exact HB.out))) : w.heap.size ≤ gb133)); clear HB; have HB := n0_; have BK133 := n1_; have GW133 := n2_; have GE133 := n3_; clear n0_ n1_ n2_ n3_; clear hb hbox hg))
  repeat (go_quiet (first | ((with_reducible refine gate_dst (N := 3) rfl ?_); refine box_event ?hg (N := 3) ?hd (cs := #[.slice A0_0 l0_0.length c0_0, .int .i64 a0_1]) (t := 99) ?hr ?_; (case hd => rfl); (case hg => rfl); (case hr => first | (go_simp; done) | (go_simp; rfl)); intro gb133 hg w5 hbox hb; have n0_ := Aside0.mk (below_step (by repeat (first | (with_reducible first | exact HB.out | apply below_alloc | apply pw_below_drewN | apply below_drew1) | exact HB.out)) hb); have n1_ := Aside0.mk (hbox); have n2_ := Aside0.mk ((by rw [hg]; exact (below_size (by repeat (first | (with_reducible first | exact HB.out | apply below_alloc | apply pw_below_drewN | apply below_drew1) | exact HB.out))) : w.heap.size ≤ gb133)); have n3_ := Aside0.mk ((by rw [hg]; exact (below_size (by repeat (first | (with_reducible first | exact HB.out | apply below_alloc | apply pw_below_drewN | apply below_drew1) | exact HB.out))) : w.heap.size ≤ gb133)); clear HB; have HB := n0_; have BK133 := n1_; have GW133 := n2_; have GE133 := n3_; clear n0_ n1_ n2_ n3_; clear hb hbox hg)); go_upto_region 1 with (first | ((with_reducible refine gate_dst (N := 3) rfl ?_); refine box_event ?hg (N := 3) ?hd (cs := #[.slice A0_0 l0_0.length c0_0, .int .i64 a0_1]) (t := 99) ?hr ?_; (case hd => rfl); (case hg => rfl); (case hr => first | (go_simp; done) | (go_simp; rfl)); intro gb133 hg w5 hbox hb; have n0_ := Aside0.mk (below_step (by repeat (first | (with_reducible first | exact HB.out | apply below_alloc | apply pw_below_drewN | apply below_drew1) | exact HB.out)) hb); have n1_ := Aside0.mk (hbox); have n2_ := Aside0.mk ((by rw [hg]; exact (below_size (by repeat (first | (with_reducible first | exact HB.out | apply below_alloc | apply pw_below_drewN | apply below_drew1) | exact HB.out))) : w.heap.size ≤ gb133)); have n3_ := Aside0.mk ((by rw [hg]; exact (below_size (by repeat (first | (with_reducible first | exact HB.out | apply below_alloc | apply pw_below_drewN | apply below_drew1) | exact HB.out))) : w.heap.size ≤ gb133)); clear HB; have HB := n0_; have BK133 := n1_; have GW133 := n2_; have GE133 := n3_; clear n0_ n1_ n2_ n3_; clear hb hbox hg)))
  (try simp only [Act.put, List.setIfInBounds_toArray, List.set_cons_zero, List.set_cons_succ])
  go_cut [11] (fun v11 wc => ∃ (kq : Nat) (x11_3 : Bool), v11 = .bool x11_3 ∧ Aside0 (bits_Take.j0 kq a1 a2 x11_3 l0_0 a0_1 = some (r1, r2)) ∧ Aside0 (kq ≤ k) ∧ Aside0 (wc.heap[gb133]? = some (.cells #[(.slice A0_0 l0_0.length c0_0), .int .i64 a0_1] 99 (0, 0))) ∧ Aside0 (Below w.heap.size w wc))
  case first =>
    have H := HC4.out
    clear HC4
    replace H := Option.bind_eq_some_iff.mp H
    obtain ⟨t134, A60, H⟩ := H
    replace H : (if t134 = true then (if a2 < 0 then (bits_Take.j0 k a1 a2 true l0_0 a0_1) else (if a2 > 64 then (bits_Take.j0 k a1 a2 true l0_0 a0_1) else (if a1 < 0 then (bits_Take.j0 k a1 a2 true l0_0 a0_1) else (bits_Take.j0 k a1 a2 (decide (a1 > a0_1)) l0_0 a0_1)))) else (bits_Take.j0 k a1 a2 true l0_0 a0_1)) = some (r1, r2) := H
    have A6 := Aside0.mk A60
    clear A60
    by_cases c7 : t134 = true
    · subst c7
      have H1 : (if a2 < 0 then (bits_Take.j0 k a1 a2 true l0_0 a0_1) else (if a2 > 64 then (bits_Take.j0 k a1 a2 true l0_0 a0_1) else (if a1 < 0 then (bits_Take.j0 k a1 a2 true l0_0 a0_1) else (bits_Take.j0 k a1 a2 (decide (a1 > a0_1)) l0_0 a0_1)))) = some (r1, r2) := by rw [if_pos rfl] at H; exact H
      clear H
      have H := H1
      clear H1
      by_cases c8 : a2 < 0
      · rw [if_pos c8] at H
        have c8b0 : decide (a2 < 0) = true := decide_eq_true c8
        clear c8
        (first | rw [c8b0] | (simp only [i64_w, i32_w]; rw [c8b0]) | skip)
        have H' := Aside0.mk H
        clear H
        have hcz9_0 : w5.cell? ⟨gb133, 0, none⟩ = some (.slice A0_0 l0_0.length c0_0) := (blk_cell BK133.out 0).trans rfl
        have hcz9_1 : w5.cell? ⟨gb133, 1, none⟩ = some (.int .i64 a0_1) := (blk_cell BK133.out 1).trans rfl
        have hfz9_0 := blk_frozen BK133.out 0
        have hfz9_1 := blk_frozen BK133.out 1
        go_wp2_with (first | (go_at_call 113; (with_reducible refine (bits_Can.calls _ _ l0_0 a0_1 true _ ?side1 ?side2 A6.out).mono ?_); (case side1 => repeat (first | exact (Kd.C_below HR0_0.out HB.out) | (with_reducible refine Kd.C_alloc ?_ _) | (with_reducible refine Kd.C_drewN ?_ _) | (with_reducible refine Kd.C_drew ?_))); (case side2 => exact HC0_0.out); rintro e w10 ⟨rfl, hb⟩; have n0_ := Aside0.mk (blk_below (g := gb133) (o := .cells #[.slice A0_0 l0_0.length c0_0, .int .i64 a0_1] 99 (0, 0)) (by (with_reducible repeat (first | refine blk_drewN ?_ _ | refine blk_drew ?_ | refine blk_alloc ?_ _)); exact BK133.out) hb); have n1_ := Aside0.mk (below_step (by repeat (first | (with_reducible first | exact HB.out | apply below_alloc | apply pw_below_drewN | apply below_drew1 | refine below_set ?_ GE133.out) | exact HB.out)) hb); clear BK133; clear HB; have BK133 := n0_; have HB := n1_; clear n0_ n1_; (try clear hb); (try clear hb2); (try clear hk); (try clear hi)))
        repeat (go_quiet (first | (go_at_call 113; (with_reducible refine (bits_Can.calls _ _ l0_0 a0_1 true _ ?side1 ?side2 A6.out).mono ?_); (case side1 => repeat (first | exact (Kd.C_below HR0_0.out HB.out) | (with_reducible refine Kd.C_alloc ?_ _) | (with_reducible refine Kd.C_drewN ?_ _) | (with_reducible refine Kd.C_drew ?_))); (case side2 => exact HC0_0.out); rintro e w10 ⟨rfl, hb⟩; have n0_ := Aside0.mk (blk_below (g := gb133) (o := .cells #[.slice A0_0 l0_0.length c0_0, .int .i64 a0_1] 99 (0, 0)) (by (with_reducible repeat (first | refine blk_drewN ?_ _ | refine blk_drew ?_ | refine blk_alloc ?_ _)); exact BK133.out) hb); have n1_ := Aside0.mk (below_step (by repeat (first | (with_reducible first | exact HB.out | apply below_alloc | apply pw_below_drewN | apply below_drew1 | refine below_set ?_ GE133.out) | exact HB.out)) hb); clear BK133; clear HB; have BK133 := n0_; have HB := n1_; clear n0_ n1_; (try clear hb); (try clear hb2); (try clear hk); (try clear hi))); try go_wp2_with (first | (go_at_call 113; (with_reducible refine (bits_Can.calls _ _ l0_0 a0_1 true _ ?side1 ?side2 A6.out).mono ?_); (case side1 => repeat (first | exact (Kd.C_below HR0_0.out HB.out) | (with_reducible refine Kd.C_alloc ?_ _) | (with_reducible refine Kd.C_drewN ?_ _) | (with_reducible refine Kd.C_drew ?_))); (case side2 => exact HC0_0.out); rintro e w10 ⟨rfl, hb⟩; have n0_ := Aside0.mk (blk_below (g := gb133) (o := .cells #[.slice A0_0 l0_0.length c0_0, .int .i64 a0_1] 99 (0, 0)) (by (with_reducible repeat (first | refine blk_drewN ?_ _ | refine blk_drew ?_ | refine blk_alloc ?_ _)); exact BK133.out) hb); have n1_ := Aside0.mk (below_step (by repeat (first | (with_reducible first | exact HB.out | apply below_alloc | apply pw_below_drewN | apply below_drew1 | refine below_set ?_ GE133.out) | exact HB.out)) hb); clear BK133; clear HB; have BK133 := n0_; have HB := n1_; clear n0_ n1_; (try clear hb); (try clear hb2); (try clear hk); (try clear hi))))
        go_meet
        case rel => exact ⟨_, (true), (by first | rfl | (simp; done) | (simp [*]; done)), H', ⟨by first | omega | exact Nat.le_refl _⟩, ⟨by (with_reducible repeat (first | refine blk_drewN ?_ _ | refine blk_drew ?_ | refine blk_alloc ?_ _)); exact BK133.out⟩, ⟨by repeat (first | (with_reducible first | exact HB.out | apply below_alloc | apply pw_below_drewN | apply below_drew1 | refine below_set ?_ GE133.out) | exact HB.out)⟩⟩
      · rw [if_neg c8] at H
        have c8b0 : decide (a2 < 0) = false := decide_eq_false c8
        clear c8
        (first | rw [c8b0] | (simp only [i64_w, i32_w]; rw [c8b0]) | skip)
        by_cases c11 : a2 > 64
        · rw [if_pos c11] at H
          have c11b0 : decide (64 < a2) = true := decide_eq_true c11
          clear c11
          have H' := Aside0.mk H
          clear H
          have hcz12_0 : w5.cell? ⟨gb133, 0, none⟩ = some (.slice A0_0 l0_0.length c0_0) := (blk_cell BK133.out 0).trans rfl
          have hcz12_1 : w5.cell? ⟨gb133, 1, none⟩ = some (.int .i64 a0_1) := (blk_cell BK133.out 1).trans rfl
          have hfz12_0 := blk_frozen BK133.out 0
          have hfz12_1 := blk_frozen BK133.out 1
          go_wp2_with (first | (go_at_call 113; (with_reducible refine (bits_Can.calls _ _ l0_0 a0_1 true _ ?side1 ?side2 A6.out).mono ?_); (case side1 => repeat (first | exact (Kd.C_below HR0_0.out HB.out) | (with_reducible refine Kd.C_alloc ?_ _) | (with_reducible refine Kd.C_drewN ?_ _) | (with_reducible refine Kd.C_drew ?_))); (case side2 => exact HC0_0.out); rintro e w13 ⟨rfl, hb⟩; have n0_ := Aside0.mk (blk_below (g := gb133) (o := .cells #[.slice A0_0 l0_0.length c0_0, .int .i64 a0_1] 99 (0, 0)) (by (with_reducible repeat (first | refine blk_drewN ?_ _ | refine blk_drew ?_ | refine blk_alloc ?_ _)); exact BK133.out) hb); have n1_ := Aside0.mk (below_step (by repeat (first | (with_reducible first | exact HB.out | apply below_alloc | apply pw_below_drewN | apply below_drew1 | refine below_set ?_ GE133.out) | exact HB.out)) hb); clear BK133; clear HB; have BK133 := n0_; have HB := n1_; clear n0_ n1_; (try clear hb); (try clear hb2); (try clear hk); (try clear hi)))
          repeat (go_quiet (first | (go_at_call 113; (with_reducible refine (bits_Can.calls _ _ l0_0 a0_1 true _ ?side1 ?side2 A6.out).mono ?_); (case side1 => repeat (first | exact (Kd.C_below HR0_0.out HB.out) | (with_reducible refine Kd.C_alloc ?_ _) | (with_reducible refine Kd.C_drewN ?_ _) | (with_reducible refine Kd.C_drew ?_))); (case side2 => exact HC0_0.out); rintro e w13 ⟨rfl, hb⟩; have n0_ := Aside0.mk (blk_below (g := gb133) (o := .cells #[.slice A0_0 l0_0.length c0_0, .int .i64 a0_1] 99 (0, 0)) (by (with_reducible repeat (first | refine blk_drewN ?_ _ | refine blk_drew ?_ | refine blk_alloc ?_ _)); exact BK133.out) hb); have n1_ := Aside0.mk (below_step (by repeat (first | (with_reducible first | exact HB.out | apply below_alloc | apply pw_below_drewN | apply below_drew1 | refine below_set ?_ GE133.out) | exact HB.out)) hb); clear BK133; clear HB; have BK133 := n0_; have HB := n1_; clear n0_ n1_; (try clear hb); (try clear hb2); (try clear hk); (try clear hi))); try go_wp2_with (first | (go_at_call 113; (with_reducible refine (bits_Can.calls _ _ l0_0 a0_1 true _ ?side1 ?side2 A6.out).mono ?_); (case side1 => repeat (first | exact (Kd.C_below HR0_0.out HB.out) | (with_reducible refine Kd.C_alloc ?_ _) | (with_reducible refine Kd.C_drewN ?_ _) | (with_reducible refine Kd.C_drew ?_))); (case side2 => exact HC0_0.out); rintro e w13 ⟨rfl, hb⟩; have n0_ := Aside0.mk (blk_below (g := gb133) (o := .cells #[.slice A0_0 l0_0.length c0_0, .int .i64 a0_1] 99 (0, 0)) (by (with_reducible repeat (first | refine blk_drewN ?_ _ | refine blk_drew ?_ | refine blk_alloc ?_ _)); exact BK133.out) hb); have n1_ := Aside0.mk (below_step (by repeat (first | (with_reducible first | exact HB.out | apply below_alloc | apply pw_below_drewN | apply below_drew1 | refine below_set ?_ GE133.out) | exact HB.out)) hb); clear BK133; clear HB; have BK133 := n0_; have HB := n1_; clear n0_ n1_; (try clear hb); (try clear hb2); (try clear hk); (try clear hi))))
          go_meet
          case rel => exact ⟨_, (true), (by first | rfl | (simp; done) | (simp [*]; done)), H', ⟨by first | omega | exact Nat.le_refl _⟩, ⟨by (with_reducible repeat (first | refine blk_drewN ?_ _ | refine blk_drew ?_ | refine blk_alloc ?_ _)); exact BK133.out⟩, ⟨by repeat (first | (with_reducible first | exact HB.out | apply below_alloc | apply pw_below_drewN | apply below_drew1 | refine below_set ?_ GE133.out) | exact HB.out)⟩⟩
        · rw [if_neg c11] at H
          have c11b0 : decide (64 < a2) = false := decide_eq_false c11
          clear c11
          by_cases c14 : a1 < 0
          · rw [if_pos c14] at H
            have c14b0 : decide (a1 < 0) = true := decide_eq_true c14
            clear c14
            have H' := Aside0.mk H
            clear H
            have hcz15_0 : w5.cell? ⟨gb133, 0, none⟩ = some (.slice A0_0 l0_0.length c0_0) := (blk_cell BK133.out 0).trans rfl
            have hcz15_1 : w5.cell? ⟨gb133, 1, none⟩ = some (.int .i64 a0_1) := (blk_cell BK133.out 1).trans rfl
            have hfz15_0 := blk_frozen BK133.out 0
            have hfz15_1 := blk_frozen BK133.out 1
            go_wp2_with (first | (go_at_call 113; (with_reducible refine (bits_Can.calls _ _ l0_0 a0_1 true _ ?side1 ?side2 A6.out).mono ?_); (case side1 => repeat (first | exact (Kd.C_below HR0_0.out HB.out) | (with_reducible refine Kd.C_alloc ?_ _) | (with_reducible refine Kd.C_drewN ?_ _) | (with_reducible refine Kd.C_drew ?_))); (case side2 => exact HC0_0.out); rintro e w16 ⟨rfl, hb⟩; have n0_ := Aside0.mk (blk_below (g := gb133) (o := .cells #[.slice A0_0 l0_0.length c0_0, .int .i64 a0_1] 99 (0, 0)) (by (with_reducible repeat (first | refine blk_drewN ?_ _ | refine blk_drew ?_ | refine blk_alloc ?_ _)); exact BK133.out) hb); have n1_ := Aside0.mk (below_step (by repeat (first | (with_reducible first | exact HB.out | apply below_alloc | apply pw_below_drewN | apply below_drew1 | refine below_set ?_ GE133.out) | exact HB.out)) hb); clear BK133; clear HB; have BK133 := n0_; have HB := n1_; clear n0_ n1_; (try clear hb); (try clear hb2); (try clear hk); (try clear hi)))
            repeat (go_quiet (first | (go_at_call 113; (with_reducible refine (bits_Can.calls _ _ l0_0 a0_1 true _ ?side1 ?side2 A6.out).mono ?_); (case side1 => repeat (first | exact (Kd.C_below HR0_0.out HB.out) | (with_reducible refine Kd.C_alloc ?_ _) | (with_reducible refine Kd.C_drewN ?_ _) | (with_reducible refine Kd.C_drew ?_))); (case side2 => exact HC0_0.out); rintro e w16 ⟨rfl, hb⟩; have n0_ := Aside0.mk (blk_below (g := gb133) (o := .cells #[.slice A0_0 l0_0.length c0_0, .int .i64 a0_1] 99 (0, 0)) (by (with_reducible repeat (first | refine blk_drewN ?_ _ | refine blk_drew ?_ | refine blk_alloc ?_ _)); exact BK133.out) hb); have n1_ := Aside0.mk (below_step (by repeat (first | (with_reducible first | exact HB.out | apply below_alloc | apply pw_below_drewN | apply below_drew1 | refine below_set ?_ GE133.out) | exact HB.out)) hb); clear BK133; clear HB; have BK133 := n0_; have HB := n1_; clear n0_ n1_; (try clear hb); (try clear hb2); (try clear hk); (try clear hi))); try go_wp2_with (first | (go_at_call 113; (with_reducible refine (bits_Can.calls _ _ l0_0 a0_1 true _ ?side1 ?side2 A6.out).mono ?_); (case side1 => repeat (first | exact (Kd.C_below HR0_0.out HB.out) | (with_reducible refine Kd.C_alloc ?_ _) | (with_reducible refine Kd.C_drewN ?_ _) | (with_reducible refine Kd.C_drew ?_))); (case side2 => exact HC0_0.out); rintro e w16 ⟨rfl, hb⟩; have n0_ := Aside0.mk (blk_below (g := gb133) (o := .cells #[.slice A0_0 l0_0.length c0_0, .int .i64 a0_1] 99 (0, 0)) (by (with_reducible repeat (first | refine blk_drewN ?_ _ | refine blk_drew ?_ | refine blk_alloc ?_ _)); exact BK133.out) hb); have n1_ := Aside0.mk (below_step (by repeat (first | (with_reducible first | exact HB.out | apply below_alloc | apply pw_below_drewN | apply below_drew1 | refine below_set ?_ GE133.out) | exact HB.out)) hb); clear BK133; clear HB; have BK133 := n0_; have HB := n1_; clear n0_ n1_; (try clear hb); (try clear hb2); (try clear hk); (try clear hi))))
            go_meet
            case rel => exact ⟨_, (true), (by first | rfl | (simp; done) | (simp [*]; done)), H', ⟨by first | omega | exact Nat.le_refl _⟩, ⟨by (with_reducible repeat (first | refine blk_drewN ?_ _ | refine blk_drew ?_ | refine blk_alloc ?_ _)); exact BK133.out⟩, ⟨by repeat (first | (with_reducible first | exact HB.out | apply below_alloc | apply pw_below_drewN | apply below_drew1 | refine below_set ?_ GE133.out) | exact HB.out)⟩⟩
          · rw [if_neg c14] at H
            have c14b0 : decide (a1 < 0) = false := decide_eq_false c14
            clear c14
            have H' := Aside0.mk H
            clear H
            have hcz17_0 : w5.cell? ⟨gb133, 0, none⟩ = some (.slice A0_0 l0_0.length c0_0) := (blk_cell BK133.out 0).trans rfl
            have hcz17_1 : w5.cell? ⟨gb133, 1, none⟩ = some (.int .i64 a0_1) := (blk_cell BK133.out 1).trans rfl
            have hfz17_0 := blk_frozen BK133.out 0
            have hfz17_1 := blk_frozen BK133.out 1
            go_wp2_with (first | (go_at_call 113; (with_reducible refine (bits_Can.calls _ _ l0_0 a0_1 true _ ?side1 ?side2 A6.out).mono ?_); (case side1 => repeat (first | exact (Kd.C_below HR0_0.out HB.out) | (with_reducible refine Kd.C_alloc ?_ _) | (with_reducible refine Kd.C_drewN ?_ _) | (with_reducible refine Kd.C_drew ?_))); (case side2 => exact HC0_0.out); rintro e w18 ⟨rfl, hb⟩; have n0_ := Aside0.mk (blk_below (g := gb133) (o := .cells #[.slice A0_0 l0_0.length c0_0, .int .i64 a0_1] 99 (0, 0)) (by (with_reducible repeat (first | refine blk_drewN ?_ _ | refine blk_drew ?_ | refine blk_alloc ?_ _)); exact BK133.out) hb); have n1_ := Aside0.mk (below_step (by repeat (first | (with_reducible first | exact HB.out | apply below_alloc | apply pw_below_drewN | apply below_drew1 | refine below_set ?_ GE133.out) | exact HB.out)) hb); clear BK133; clear HB; have BK133 := n0_; have HB := n1_; clear n0_ n1_; (try clear hb); (try clear hb2); (try clear hk); (try clear hi); have hcz19_0 : w18.cell? ⟨gb133, 0, none⟩ = some (.slice A0_0 l0_0.length c0_0) := (blk_cell BK133.out 0).trans rfl; have hcz19_1 : w18.cell? ⟨gb133, 1, none⟩ = some (.int .i64 a0_1) := (blk_cell BK133.out 1).trans rfl; have hfz19_0 := blk_frozen BK133.out 0; have hfz19_1 := blk_frozen BK133.out 1))
            repeat (go_quiet (first | (go_at_call 113; (with_reducible refine (bits_Can.calls _ _ l0_0 a0_1 true _ ?side1 ?side2 A6.out).mono ?_); (case side1 => repeat (first | exact (Kd.C_below HR0_0.out HB.out) | (with_reducible refine Kd.C_alloc ?_ _) | (with_reducible refine Kd.C_drewN ?_ _) | (with_reducible refine Kd.C_drew ?_))); (case side2 => exact HC0_0.out); rintro e w18 ⟨rfl, hb⟩; have n0_ := Aside0.mk (blk_below (g := gb133) (o := .cells #[.slice A0_0 l0_0.length c0_0, .int .i64 a0_1] 99 (0, 0)) (by (with_reducible repeat (first | refine blk_drewN ?_ _ | refine blk_drew ?_ | refine blk_alloc ?_ _)); exact BK133.out) hb); have n1_ := Aside0.mk (below_step (by repeat (first | (with_reducible first | exact HB.out | apply below_alloc | apply pw_below_drewN | apply below_drew1 | refine below_set ?_ GE133.out) | exact HB.out)) hb); clear BK133; clear HB; have BK133 := n0_; have HB := n1_; clear n0_ n1_; (try clear hb); (try clear hb2); (try clear hk); (try clear hi); have hcz19_0 : w18.cell? ⟨gb133, 0, none⟩ = some (.slice A0_0 l0_0.length c0_0) := (blk_cell BK133.out 0).trans rfl; have hcz19_1 : w18.cell? ⟨gb133, 1, none⟩ = some (.int .i64 a0_1) := (blk_cell BK133.out 1).trans rfl; have hfz19_0 := blk_frozen BK133.out 0; have hfz19_1 := blk_frozen BK133.out 1)); try go_wp2_with (first | (go_at_call 113; (with_reducible refine (bits_Can.calls _ _ l0_0 a0_1 true _ ?side1 ?side2 A6.out).mono ?_); (case side1 => repeat (first | exact (Kd.C_below HR0_0.out HB.out) | (with_reducible refine Kd.C_alloc ?_ _) | (with_reducible refine Kd.C_drewN ?_ _) | (with_reducible refine Kd.C_drew ?_))); (case side2 => exact HC0_0.out); rintro e w18 ⟨rfl, hb⟩; have n0_ := Aside0.mk (blk_below (g := gb133) (o := .cells #[.slice A0_0 l0_0.length c0_0, .int .i64 a0_1] 99 (0, 0)) (by (with_reducible repeat (first | refine blk_drewN ?_ _ | refine blk_drew ?_ | refine blk_alloc ?_ _)); exact BK133.out) hb); have n1_ := Aside0.mk (below_step (by repeat (first | (with_reducible first | exact HB.out | apply below_alloc | apply pw_below_drewN | apply below_drew1 | refine below_set ?_ GE133.out) | exact HB.out)) hb); clear BK133; clear HB; have BK133 := n0_; have HB := n1_; clear n0_ n1_; (try clear hb); (try clear hb2); (try clear hk); (try clear hi); have hcz19_0 : w18.cell? ⟨gb133, 0, none⟩ = some (.slice A0_0 l0_0.length c0_0) := (blk_cell BK133.out 0).trans rfl; have hcz19_1 : w18.cell? ⟨gb133, 1, none⟩ = some (.int .i64 a0_1) := (blk_cell BK133.out 1).trans rfl; have hfz19_0 := blk_frozen BK133.out 0; have hfz19_1 := blk_frozen BK133.out 1)))
            go_meet
            case rel => exact ⟨_, (decide (a1 > a0_1)), (by first | rfl | (simp; done) | (simp [*]; done)), H', ⟨by first | omega | exact Nat.le_refl _⟩, ⟨by (with_reducible repeat (first | refine blk_drewN ?_ _ | refine blk_drew ?_ | refine blk_alloc ?_ _)); exact BK133.out⟩, ⟨by repeat (first | (with_reducible first | exact HB.out | apply below_alloc | apply pw_below_drewN | apply below_drew1 | refine below_set ?_ GE133.out) | exact HB.out)⟩⟩
    · replace c7 := Bool.eq_false_iff.mpr c7
      subst c7
      have H1 : (bits_Take.j0 k a1 a2 true l0_0 a0_1) = some (r1, r2) := by rw [if_neg (show ¬ (false = true) by decide)] at H; exact H
      clear H
      have H := H1
      clear H1
      have H' := Aside0.mk H
      clear H
      have hcz20_0 : w5.cell? ⟨gb133, 0, none⟩ = some (.slice A0_0 l0_0.length c0_0) := (blk_cell BK133.out 0).trans rfl
      have hcz20_1 : w5.cell? ⟨gb133, 1, none⟩ = some (.int .i64 a0_1) := (blk_cell BK133.out 1).trans rfl
      have hfz20_0 := blk_frozen BK133.out 0
      have hfz20_1 := blk_frozen BK133.out 1
      go_wp2_with (first | (go_at_call 113; (with_reducible refine (bits_Can.calls _ _ l0_0 a0_1 false _ ?side1 ?side2 A6.out).mono ?_); (case side1 => repeat (first | exact (Kd.C_below HR0_0.out HB.out) | (with_reducible refine Kd.C_alloc ?_ _) | (with_reducible refine Kd.C_drewN ?_ _) | (with_reducible refine Kd.C_drew ?_))); (case side2 => exact HC0_0.out); rintro e w21 ⟨rfl, hb⟩; have n0_ := Aside0.mk (blk_below (g := gb133) (o := .cells #[.slice A0_0 l0_0.length c0_0, .int .i64 a0_1] 99 (0, 0)) (by (with_reducible repeat (first | refine blk_drewN ?_ _ | refine blk_drew ?_ | refine blk_alloc ?_ _)); exact BK133.out) hb); have n1_ := Aside0.mk (below_step (by repeat (first | (with_reducible first | exact HB.out | apply below_alloc | apply pw_below_drewN | apply below_drew1 | refine below_set ?_ GE133.out) | exact HB.out)) hb); clear BK133; clear HB; have BK133 := n0_; have HB := n1_; clear n0_ n1_; (try clear hb); (try clear hb2); (try clear hk); (try clear hi)))
      repeat (go_quiet (first | (go_at_call 113; (with_reducible refine (bits_Can.calls _ _ l0_0 a0_1 false _ ?side1 ?side2 A6.out).mono ?_); (case side1 => repeat (first | exact (Kd.C_below HR0_0.out HB.out) | (with_reducible refine Kd.C_alloc ?_ _) | (with_reducible refine Kd.C_drewN ?_ _) | (with_reducible refine Kd.C_drew ?_))); (case side2 => exact HC0_0.out); rintro e w21 ⟨rfl, hb⟩; have n0_ := Aside0.mk (blk_below (g := gb133) (o := .cells #[.slice A0_0 l0_0.length c0_0, .int .i64 a0_1] 99 (0, 0)) (by (with_reducible repeat (first | refine blk_drewN ?_ _ | refine blk_drew ?_ | refine blk_alloc ?_ _)); exact BK133.out) hb); have n1_ := Aside0.mk (below_step (by repeat (first | (with_reducible first | exact HB.out | apply below_alloc | apply pw_below_drewN | apply below_drew1 | refine below_set ?_ GE133.out) | exact HB.out)) hb); clear BK133; clear HB; have BK133 := n0_; have HB := n1_; clear n0_ n1_; (try clear hb); (try clear hb2); (try clear hk); (try clear hi))); try go_wp2_with (first | (go_at_call 113; (with_reducible refine (bits_Can.calls _ _ l0_0 a0_1 false _ ?side1 ?side2 A6.out).mono ?_); (case side1 => repeat (first | exact (Kd.C_below HR0_0.out HB.out) | (with_reducible refine Kd.C_alloc ?_ _) | (with_reducible refine Kd.C_drewN ?_ _) | (with_reducible refine Kd.C_drew ?_))); (case side2 => exact HC0_0.out); rintro e w21 ⟨rfl, hb⟩; have n0_ := Aside0.mk (blk_below (g := gb133) (o := .cells #[.slice A0_0 l0_0.length c0_0, .int .i64 a0_1] 99 (0, 0)) (by (with_reducible repeat (first | refine blk_drewN ?_ _ | refine blk_drew ?_ | refine blk_alloc ?_ _)); exact BK133.out) hb); have n1_ := Aside0.mk (below_step (by repeat (first | (with_reducible first | exact HB.out | apply below_alloc | apply pw_below_drewN | apply below_drew1 | refine below_set ?_ GE133.out) | exact HB.out)) hb); clear BK133; clear HB; have BK133 := n0_; have HB := n1_; clear n0_ n1_; (try clear hb); (try clear hb2); (try clear hk); (try clear hi))))
      go_meet
      case rel => exact ⟨_, (true), (by first | rfl | (simp; done) | (simp [*]; done)), H', ⟨by first | omega | exact Nat.le_refl _⟩, ⟨by (with_reducible repeat (first | refine blk_drewN ?_ _ | refine blk_drew ?_ | refine blk_alloc ?_ _)); exact BK133.out⟩, ⟨by repeat (first | (with_reducible first | exact HB.out | apply below_alloc | apply pw_below_drewN | apply below_drew1 | refine below_set ?_ GE133.out) | exact HB.out)⟩⟩
  case rest =>
    clear HC4
    try clear c1
    try clear p2
    try clear c7
    try clear c8
    try clear c8b0
    try clear c11
    try clear c11b0
    try clear c14
    try clear c14b0
    try clear hcz12_0
    try clear hcz12_1
    try clear hcz15_0
    try clear hcz15_1
    try clear hcz17_0
    try clear hcz17_1
    try clear hcz19_0
    try clear hcz19_1
    try clear hcz20_0
    try clear hcz20_1
    try clear hcz9_0
    try clear hcz9_1
    try clear hfz12_0
    try clear hfz12_1
    try clear hfz15_0
    try clear hfz15_1
    try clear hfz17_0
    try clear hfz17_1
    try clear hfz19_0
    try clear hfz19_1
    try clear hfz20_0
    try clear hfz20_1
    try clear hfz9_0
    try clear hfz9_1
    obtain ⟨kq, x11_3, rfl, HA, HJ3, BK133, HB⟩ := hcut
    cases kq with
    | zero => exact absurd HA.out (by simp [bits_Take.j0])
    | succ kj3 =>
      have H := HA.out
      clear HA
      simp only [bits_Take.j0] at H
      by_cases c22 : x11_3 = true
      · subst c22
        have H1 : (some (0, 1)) = some (r1, r2) := by rw [if_pos rfl] at H; exact H
        clear H
        have H := H1
        clear H1
        simp only [Option.some.injEq, Prod.mk.injEq] at H
        obtain ⟨rfl, rfl⟩ := H
        go_wp2
        repeat (go_quiet (fail); try go_wp2)
        go_ret2
        exact ⟨by first | rfl | (simp [errW_none, errW_some] <;> rfl) | (simp [*, errW_none, errW_some] <;> rfl), by repeat (first | (with_reducible first | exact HB.out | apply below_alloc | apply pw_below_drewN | apply below_drew1 | refine below_set ?_ GE133.out) | exact HB.out)⟩
      · replace c22 := Bool.eq_false_iff.mpr c22
        subst c22
        have H1 : (if (wrap64 (a0_1 - a1)) < a2 then (some (0, 3)) else (bits_Take.l0 kj3 a1 a2 0 l0_0 a0_1)) = some (r1, r2) := by rw [if_neg (show ¬ (false = true) by decide)] at H; exact H
        clear H
        have H := H1
        clear H1
        by_cases c23 : (wrap64 (a0_1 - a1)) < a2
        · rw [if_pos c23] at H
          have c23b0 : decide ((wrap64 (a0_1 - a1)) < a2) = true := decide_eq_true c23
          clear c23
          simp only [Option.some.injEq, Prod.mk.injEq] at H
          obtain ⟨rfl, rfl⟩ := H
          have hcz24_0 : wc.cell? ⟨gb133, 0, none⟩ = some (.slice A0_0 l0_0.length c0_0) := (blk_cell BK133.out 0).trans rfl
          have hcz24_1 : wc.cell? ⟨gb133, 1, none⟩ = some (.int .i64 a0_1) := (blk_cell BK133.out 1).trans rfl
          have hfz24_0 := blk_frozen BK133.out 0
          have hfz24_1 := blk_frozen BK133.out 1
          go_wp2
          repeat (go_quiet (fail); try go_wp2)
          go_ret2
          exact ⟨by first | rfl | (simp [errW_none, errW_some] <;> rfl) | (simp [*, errW_none, errW_some] <;> rfl), by repeat (first | (with_reducible first | exact HB.out | apply below_alloc | apply pw_below_drewN | apply below_drew1 | refine below_set ?_ GE133.out) | exact HB.out)⟩
        · rw [if_neg c23] at H
          have c23b0 : decide ((wrap64 (a0_1 - a1)) < a2) = false := decide_eq_false c23
          clear c23
          have H' := Aside0.mk H
          clear H
          have hcz25_0 : wc.cell? ⟨gb133, 0, none⟩ = some (.slice A0_0 l0_0.length c0_0) := (blk_cell BK133.out 0).trans rfl
          have hcz25_1 : wc.cell? ⟨gb133, 1, none⟩ = some (.int .i64 a0_1) := (blk_cell BK133.out 1).trans rfl
          have hfz25_0 := blk_frozen BK133.out 0
          have hfz25_1 := blk_frozen BK133.out 1
          go_wp2
          repeat (go_quiet (fail); try go_wp2)
          go_loopg [1, 2, 8] kj3 (fun kq v1 v2 v8 w' => ∃ (x1_2 : Int) (x2_2 : Int) (x8_2 : Int), v1 = .int .i64 x1_2 ∧ v2 = .int .i64 x2_2 ∧ v8 = .int .u64 x8_2 ∧ Aside0 (bits_Take.l0 kq x1_2 x2_2 x8_2 l0_0 a0_1 = some (r1, r2)) ∧ Aside0 (kq ≤ kj3) ∧ Aside0 (w'.heap[gb133]? = some (.cells #[(.slice A0_0 l0_0.length c0_0), .int .i64 a0_1] 99 (0, 0))) ∧ Aside0 (Below w.heap.size w w'))
          case atStart => exact ⟨(a1), (a2), (0), (by first | rfl | (simp; done) | (simp [*]; done)), (by first | rfl | (simp; done) | (simp [*]; done)), (by first | rfl | (simp; done) | (simp [*]; done)), H', ⟨Nat.le_refl _⟩, ⟨by (with_reducible repeat (first | refine blk_drewN ?_ _ | refine blk_drew ?_ | refine blk_alloc ?_ _)); exact BK133.out⟩, ⟨by repeat (first | (with_reducible first | exact HB.out | apply below_alloc | apply pw_below_drewN | apply below_drew1 | refine below_set ?_ GE133.out) | exact HB.out)⟩⟩
          case round =>
            clear H'
            try clear c1
            try clear c2
            try clear p2
            try clear p6
            try clear c7
            try clear c8
            try clear c8b0
            try clear c11
            try clear c11b0
            try clear c14
            try clear c14b0
            try clear c22
            try clear c23
            try clear c23b0
            try clear hcz12_0
            try clear hcz12_1
            try clear hcz15_0
            try clear hcz15_1
            try clear hcz17_0
            try clear hcz17_1
            try clear hcz19_0
            try clear hcz19_1
            try clear hcz20_0
            try clear hcz20_1
            try clear hcz24_0
            try clear hcz24_1
            try clear hcz25_0
            try clear hcz25_1
            try clear hcz9_0
            try clear hcz9_1
            try clear hfz12_0
            try clear hfz12_1
            try clear hfz15_0
            try clear hfz15_1
            try clear hfz17_0
            try clear hfz17_1
            try clear hfz19_0
            try clear hfz19_1
            try clear hfz20_0
            try clear hfz20_1
            try clear hfz24_0
            try clear hfz24_1
            try clear hfz25_0
            try clear hfz25_1
            try clear hfz9_0
            try clear hfz9_1
            try clear p2
            obtain ⟨x1_2, x2_2, x8_2, rfl, rfl, rfl, HA, HK2, BK133, HB⟩ := hrel
            cases gk with
            | zero => exact absurd HA.out (by simp [bits_Take.l0])
            | succ k2 =>
              have H := HA.out
              clear HA
              simp only [bits_Take.l0] at H
              by_cases c26 : x2_2 > 0
              · rw [if_pos c26] at H
                have c26b0 : decide (0 < x2_2) = true := decide_eq_true c26
                clear c26
                obtain ⟨ji27, hji27⟩ : ∃ j_ : Int, (mn (wrap64 (8 - (Int.tmod x1_2 8))) x2_2) = j_ := ⟨_, rfl⟩
                replace H : (if 0 ≤ (ji27) then (if 0 ≤ (wrap64 (Int.tdiv x1_2 8)) then (if (wrap64 (Int.tdiv x1_2 8)) < (l0_0.length : Int) then (if 0 ≤ (wrap64 ((wrap64 (8 - (Int.tmod x1_2 8))) - (ji27))) then (bits_Take.l0 k2 (wrap64 (x1_2 + (ji27))) (wrap64 (x2_2 - (ji27))) (Go.bits .or .u64 (shl .u64 x8_2 (ji27)) (IntKind.u64.wrap (Go.bits .and .u8 (shr .u8 (rd l0_0 (wrap64 (Int.tdiv x1_2 8))) (wrap64 ((wrap64 (8 - (Int.tmod x1_2 8))) - (ji27)))) (((shl .u8 1 (ji27)) - 1) % 256)))) l0_0 a0_1) else (none)) else (none)) else (none)) else (none)) = some (r1, r2) := by first | (rw [hji27] at H; exact H) | (simp only [hji27] at H ⊢; exact H)
                have hji27_ : (if x2_2 < (wrap64 (8 - (Int.tmod x1_2 8))) then x2_2 else (wrap64 (8 - (Int.tmod x1_2 8)))) = ji27 := hji27
                by_cases c28 : 0 ≤ (ji27)
                · rw [if_pos c28] at H
                  have c28b0 := eq_true c28
                  have c28b1 : decide (0 ≤ (ji27)) = true := decide_eq_true c28
                  clear c28
                  obtain ⟨ji29, hji29⟩ : ∃ j_ : Int, (shl .u64 x8_2 (ji27)) = j_ := ⟨_, rfl⟩
                  replace H : (if 0 ≤ (wrap64 (Int.tdiv x1_2 8)) then (if (wrap64 (Int.tdiv x1_2 8)) < (l0_0.length : Int) then (if 0 ≤ (wrap64 ((wrap64 (8 - (Int.tmod x1_2 8))) - (ji27))) then (bits_Take.l0 k2 (wrap64 (x1_2 + (ji27))) (wrap64 (x2_2 - (ji27))) (Go.bits .or .u64 (ji29) (IntKind.u64.wrap (Go.bits .and .u8 (shr .u8 (rd l0_0 (wrap64 (Int.tdiv x1_2 8))) (wrap64 ((wrap64 (8 - (Int.tmod x1_2 8))) - (ji27)))) (((shl .u8 1 (ji27)) - 1) % 256)))) l0_0 a0_1) else (none)) else (none)) else (none)) = some (r1, r2) := by first | (rw [hji29] at H; exact H) | (simp only [hji29] at H ⊢; exact H)
                  have hji29_ : (IntKind.u64.wrap (x8_2 * 2 ^ min (ji27).toNat 64)) = ji29 := hji29
                  have hji29z : (ji27) ≤ 64 → (IntKind.u64.wrap (x8_2 * 2 ^ (ji27).toNat)) = ji29 := shl_small hji29
                  obtain ⟨ji30, hji30⟩ : ∃ j_ : Int, (wrap64 (Int.tdiv x1_2 8)) = j_ := ⟨_, rfl⟩
                  replace H : (if 0 ≤ (ji30) then (if (ji30) < (l0_0.length : Int) then (if 0 ≤ (wrap64 ((wrap64 (8 - (Int.tmod x1_2 8))) - (ji27))) then (bits_Take.l0 k2 (wrap64 (x1_2 + (ji27))) (wrap64 (x2_2 - (ji27))) (Go.bits .or .u64 (ji29) (IntKind.u64.wrap (Go.bits .and .u8 (shr .u8 (rd l0_0 (ji30)) (wrap64 ((wrap64 (8 - (Int.tmod x1_2 8))) - (ji27)))) (((shl .u8 1 (ji27)) - 1) % 256)))) l0_0 a0_1) else (none)) else (none)) else (none)) = some (r1, r2) := by first | (rw [hji30] at H; exact H) | (simp only [hji30] at H ⊢; exact H)
                  have hji30w : (IntKind.i64.wrap (Int.tdiv x1_2 8)) = ji30 := (i64_w _).trans hji30
                  by_cases c31 : 0 ≤ (ji30)
                  · rw [if_pos c31] at H
                    have c31b0 : decide (0 ≤ (ji30)) = true := decide_eq_true c31
                    clear c31
                    by_cases c32 : (ji30) < (l0_0.length : Int)
                    · rw [if_pos c32] at H
                      have c32b0 : decide ((ji30) < (l0_0.length : Int)) = true := decide_eq_true c32
                      clear c32
                      obtain ⟨ji33, hji33⟩ : ∃ j_ : Int, (wrap64 ((wrap64 (8 - (Int.tmod x1_2 8))) - (ji27))) = j_ := ⟨_, rfl⟩
                      replace H : (if 0 ≤ (ji33) then (bits_Take.l0 k2 (wrap64 (x1_2 + (ji27))) (wrap64 (x2_2 - (ji27))) (Go.bits .or .u64 (ji29) (IntKind.u64.wrap (Go.bits .and .u8 (shr .u8 (rd l0_0 (ji30)) (ji33)) (((shl .u8 1 (ji27)) - 1) % 256)))) l0_0 a0_1) else (none)) = some (r1, r2) := by first | (rw [hji33] at H; exact H) | (simp only [hji33] at H ⊢; exact H)
                      have hji33w : (IntKind.i64.wrap ((wrap64 (8 - (Int.tmod x1_2 8))) - (ji27))) = ji33 := (i64_w _).trans hji33
                      by_cases c34 : 0 ≤ (ji33)
                      · rw [if_pos c34] at H
                        have c34b0 := eq_true c34
                        have c34b1 : decide (0 ≤ (ji33)) = true := decide_eq_true c34
                        clear c34
                        obtain ⟨ji35, hji35⟩ : ∃ j_ : Int, (shr .u8 (rd l0_0 (ji30)) (ji33)) = j_ := ⟨_, rfl⟩
                        replace H : (bits_Take.l0 k2 (wrap64 (x1_2 + (ji27))) (wrap64 (x2_2 - (ji27))) (Go.bits .or .u64 (ji29) (IntKind.u64.wrap (Go.bits .and .u8 (ji35) (((shl .u8 1 (ji27)) - 1) % 256)))) l0_0 a0_1) = some (r1, r2) := by first | (rw [hji35] at H; exact H) | (simp only [hji35] at H ⊢; exact H)
                        have hji35_ : ((rd l0_0 (ji30)) / 2 ^ min (ji33).toNat 8) = ji35 := hji35
                        have hji35z : (ji33) ≤ 8 → ((rd l0_0 (ji30)) / 2 ^ (ji33).toNat) = ji35 := shr_small hji35
                        have c36b0 := eq_true (of_decide_eq_true (by first | (with_reducible assumption) | assumption) : 0 ≤ (ji27))
                        obtain ⟨ji37, hji37⟩ : ∃ j_ : Int, (shl .u8 1 (ji27)) = j_ := ⟨_, rfl⟩
                        replace H : (bits_Take.l0 k2 (wrap64 (x1_2 + (ji27))) (wrap64 (x2_2 - (ji27))) (Go.bits .or .u64 (ji29) (IntKind.u64.wrap (Go.bits .and .u8 (ji35) (((ji37) - 1) % 256)))) l0_0 a0_1) = some (r1, r2) := by first | (rw [hji37] at H; exact H) | (simp only [hji37] at H ⊢; exact H)
                        have hji37_ : (IntKind.u8.wrap (1 * 2 ^ min (ji27).toNat 8)) = ji37 := hji37
                        have hji37z : (ji27) ≤ 8 → (IntKind.u8.wrap (1 * 2 ^ (ji27).toNat)) = ji37 := shl_small hji37
                        have hji37u : (IntKind.u8.wrap (2 ^ min (ji27).toNat 8)) = ji37 := by have h_ := hji37_; rw [Int.one_mul] at h_; exact h_
                        have hji37v : (ji27) ≤ 8 → (IntKind.u8.wrap (2 ^ (ji27).toNat)) = ji37 := fun hle_ => by have h_ := hji37z hle_; rw [Int.one_mul] at h_; exact h_
                        have H' := Aside0.mk H
                        clear H
                        have hcz38_0 : wr.cell? ⟨gb133, 0, none⟩ = some (.slice A0_0 l0_0.length c0_0) := (blk_cell BK133.out 0).trans rfl
                        have hcz38_1 : wr.cell? ⟨gb133, 1, none⟩ = some (.int .i64 a0_1) := (blk_cell BK133.out 1).trans rfl
                        have hfz38_0 := blk_frozen BK133.out 0
                        have hfz38_1 := blk_frozen BK133.out 1
                        have p135 : 0 ≤ ((ji30) : Int) := of_decide_eq_true (by first | (with_reducible assumption) | assumption)
                        have q135 : (ji30) < (l0_0.length : Int) := of_decide_eq_true (by first | (with_reducible assumption) | assumption)
                        obtain ⟨ad135, e135, hx135_0⟩ := Kd.at_int HR0_0.out (ji30) p135 q135
                        cases e135
                        replace hx135_0 := (HB.out.cell (World.block_lt_of_cell? w _ hx135_0)).trans hx135_0
                        replace p135 := eq_true p135
                        replace q135 := eq_true q135
                        go_wp2
                        repeat (go_quiet (fail); try go_wp2)
                        go_roundg k2
                        case measure => have := HJ3.out; have := HK2.out; omega
                        case rel => exact ⟨(wrap64 (x1_2 + (ji27))), (wrap64 (x2_2 - (ji27))), (Go.bits .or .u64 (ji29) (IntKind.u64.wrap (Go.bits .and .u8 (ji35) (((ji37) - 1) % 256)))), (by first | rfl | (simp; done) | (simp only [← hji27] <;> (first | rfl | simp)) | (simp [*]; done)), (by first | rfl | (simp; done) | (simp only [← hji27] <;> (first | rfl | simp)) | (simp [*]; done)), (by first | rfl | (simp; done) | (simp only [← hji29, ← hji35, ← hji37] <;> (first | rfl | simp)) | (simp [*]; done)), H', ⟨by have := HJ3.out; have := HK2.out; omega⟩, ⟨by (with_reducible repeat (first | refine blk_drewN ?_ _ | refine blk_drew ?_ | refine blk_alloc ?_ _)); exact BK133.out⟩, ⟨by repeat (first | (with_reducible first | exact HB.out | apply below_alloc | apply pw_below_drewN | apply below_drew1 | refine below_set ?_ GE133.out) | exact HB.out)⟩⟩
                      · rw [if_neg c34] at H
                        exact absurd H (by simp)
                    · rw [if_neg c32] at H
                      exact absurd H (by simp)
                  · rw [if_neg c31] at H
                    exact absurd H (by simp)
                · rw [if_neg c28] at H
                  exact absurd H (by simp)
              · rw [if_neg c26] at H
                have c26b0 : decide (0 < x2_2) = false := decide_eq_false c26
                clear c26
                simp only [Option.some.injEq, Prod.mk.injEq] at H
                obtain ⟨rfl, rfl⟩ := H
                go_wp2
                repeat (go_quiet (fail); try go_wp2)
                go_ret2
                exact ⟨by first | rfl | (simp [errW_none, errW_some] <;> rfl) | (simp [*, errW_none, errW_some] <;> rfl), by repeat (first | (with_reducible first | exact HB.out | apply below_alloc | apply pw_below_drewN | apply below_drew1 | refine below_set ?_ GE133.out) | exact HB.out)⟩
end Go.Proofs.YtbgmnmjokdfmlaaDoor.PA
namespace Go.Proofs.YtbgmnmjokdfmlaaDoor.PA
open Go.RowKit Go.Proofs.YtbgmnmjokdfmlaaDoorW.PrintWords Go.Proofs.YtbgmnmjokdfmlaaDoorW.PrintLast Go.Proofs.YtbgmnmjokdfmlaaDoorW.PrintMore
attribute [local go_sem] max2_int min2_int max_two min_two max_three min_three max_four min_four   -- for this text's walks alone
set_option linter.unusedVariables false
set_option linter.unusedSimpArgs false
mutual
def bits_TakeInt.j0 : Nat → Int → Bool → List Int → Int → Option (Int × Int × Int)
  | 0, _, _, _, _ => none
  | k + 1, x1, x26, x139000, x139001 => if x26 = true then (some (0, 0, 1)) else (bits_TakeInt.l0 k x1 0 x139000 x139001)
def bits_TakeInt.j2 : Nat → Int → Int → List Int → Int → Option (Int × Int × Int)
  | 0, _, _, _, _ => none
  | k + 1, x1, x7, x139000, x139001 => (bits_width.f x7).bind fun t142 => ((bits_Take.f k x139000 x139001 x1 t142).bind fun bt143 => (if bt143.2 = 0 then (if t142 > 0 then (if 0 ≤ (wrap64 (64 - t142)) then ((bits_class.f k (shr .i64 (wrap64 (shl .u64 bt143.1 (wrap64 (64 - t142)))) (wrap64 (64 - t142)))).bind fun t145 => (if t145 = x7 then (some (shr .i64 (wrap64 (shl .u64 bt143.1 (wrap64 (64 - t142)))) (wrap64 (64 - t142)), wrap64 (x1 + t142), 0)) else (some (0, 0, 5)))) else (none)) else ((bits_class.f k (wrap64 (bt143.1))).bind fun t146 => (if t146 = x7 then (some (wrap64 (bt143.1), wrap64 (x1 + t142), 0)) else (some (0, 0, 5))))) else (some (0, 0, bt143.2))))
def bits_TakeInt.l0 : Nat → Int → Int → List Int → Int → Option (Int × Int × Int)
  | 0, _, _, _, _ => none
  | k + 1, x1, x7, x139000, x139001 => if x7 < 4 then ((bits_Take.f k x139000 x139001 x1 1).bind fun bt140 => (if bt140.2 = 0 then (if bt140.1 = 0 then (bits_TakeInt.j2 k (wrap64 (x1 + 1)) x7 x139000 x139001) else (bits_TakeInt.l0 k (wrap64 (x1 + 1)) (wrap64 (x7 + 1)) x139000 x139001)) else (some (0, 0, bt140.2)))) else (bits_TakeInt.j2 k x1 x7 x139000 x139001)
end
def bits_TakeInt.f (k : Nat) (l0_0 : List Int) (a0_1 : Int) (a1 : Int) : Option (Int × Int × Int) := (bits_Can.f l0_0 a0_1).bind fun t139 => (if t139 = true then (if a1 < 0 then (bits_TakeInt.j0 k a1 true l0_0 a0_1) else (bits_TakeInt.j0 k a1 (decide (a1 > a0_1)) l0_0 a0_1)) else (bits_TakeInt.j0 k a1 true l0_0 a0_1))
theorem bits_TakeInt.mono_l : ∀ k, (∀ y0 y1 y2 y3, LeO (bits_TakeInt.j0 k y0 y1 y2 y3) (bits_TakeInt.j0 (k + 1) y0 y1 y2 y3)) ∧ (∀ y0 y1 y2 y3, LeO (bits_TakeInt.j2 k y0 y1 y2 y3) (bits_TakeInt.j2 (k + 1) y0 y1 y2 y3)) ∧ (∀ y0 y1 y2 y3, LeO (bits_TakeInt.l0 k y0 y1 y2 y3) (bits_TakeInt.l0 (k + 1) y0 y1 y2 y3))
  | 0 => ⟨fun _ _ _ _ r h => by simp [bits_TakeInt.j0] at h, fun _ _ _ _ r h => by simp [bits_TakeInt.j2] at h, fun _ _ _ _ r h => by simp [bits_TakeInt.l0] at h⟩
  | k + 1 => by
    obtain ⟨ih0, ih1, ih2⟩ := bits_TakeInt.mono_l k
    refine ⟨?_, ?_, ?_⟩
    · intro y0 y1 y2 y3
      unfold bits_TakeInt.j0
      repeat' first
      | (with_reducible exact ih0 _ _ _ _)
      | (with_reducible exact ih1 _ _ _ _)
      | (with_reducible exact ih2 _ _ _ _)
      | (with_reducible exact bits_Take.mono _ _ _ _ _)
      | (with_reducible exact bits_class.mono _ _)
      | (with_reducible exact LeO.refl _)
      | (with_reducible exact LeO.none _)
      | (with_reducible refine LeO.ite ?_ ?_)
      | (with_reducible refine LeO.bind ?_ (fun _ => ?_))
      | exact ih0 _ _ _ _
      | exact ih1 _ _ _ _
      | exact ih2 _ _ _ _
      | exact bits_Take.mono _ _ _ _ _
      | exact bits_class.mono _ _
      | exact LeO.none _
      | refine LeO.ite ?_ ?_
      | refine LeO.bind ?_ (fun _ => ?_)
    · intro y0 y1 y2 y3
      unfold bits_TakeInt.j2
      repeat' first
      | (with_reducible exact ih0 _ _ _ _)
      | (with_reducible exact ih1 _ _ _ _)
      | (with_reducible exact ih2 _ _ _ _)
      | (with_reducible exact bits_Take.mono _ _ _ _ _)
      | (with_reducible exact bits_class.mono _ _)
      | (with_reducible exact LeO.refl _)
      | (with_reducible exact LeO.none _)
      | (with_reducible refine LeO.ite ?_ ?_)
      | (with_reducible refine LeO.bind ?_ (fun _ => ?_))
      | exact ih0 _ _ _ _
      | exact ih1 _ _ _ _
      | exact ih2 _ _ _ _
      | exact bits_Take.mono _ _ _ _ _
      | exact bits_class.mono _ _
      | exact LeO.none _
      | refine LeO.ite ?_ ?_
      | refine LeO.bind ?_ (fun _ => ?_)
    · intro y0 y1 y2 y3
      unfold bits_TakeInt.l0
      repeat' first
      | (with_reducible exact ih0 _ _ _ _)
      | (with_reducible exact ih1 _ _ _ _)
      | (with_reducible exact ih2 _ _ _ _)
      | (with_reducible exact bits_Take.mono _ _ _ _ _)
      | (with_reducible exact bits_class.mono _ _)
      | (with_reducible exact LeO.refl _)
      | (with_reducible exact LeO.none _)
      | (with_reducible refine LeO.ite ?_ ?_)
      | (with_reducible refine LeO.bind ?_ (fun _ => ?_))
      | exact ih0 _ _ _ _
      | exact ih1 _ _ _ _
      | exact ih2 _ _ _ _
      | exact bits_Take.mono _ _ _ _ _
      | exact bits_class.mono _ _
      | exact LeO.none _
      | refine LeO.ite ?_ ?_
      | refine LeO.bind ?_ (fun _ => ?_)
theorem bits_TakeInt.mono : ∀ a0 a1 a2 k, LeO (bits_TakeInt.f k a0 a1 a2) (bits_TakeInt.f (k + 1) a0 a1 a2) := by
  intro a0 a1 a2 k
  obtain ⟨ih0, ih1, ih2⟩ := bits_TakeInt.mono_l k
  unfold bits_TakeInt.f
  repeat' first
      | (with_reducible exact ih0 _ _ _ _)
      | (with_reducible exact ih1 _ _ _ _)
      | (with_reducible exact ih2 _ _ _ _)
      | (with_reducible exact bits_Take.mono _ _ _ _ _)
      | (with_reducible exact bits_class.mono _ _)
      | (with_reducible exact LeO.refl _)
      | (with_reducible exact LeO.none _)
      | (with_reducible refine LeO.ite ?_ ?_)
      | (with_reducible refine LeO.bind ?_ (fun _ => ?_))
      | exact ih0 _ _ _ _
      | exact ih1 _ _ _ _
      | exact ih2 _ _ _ _
      | exact bits_Take.mono _ _ _ _ _
      | exact bits_class.mono _ _
      | exact LeO.none _
      | refine LeO.ite ?_ ?_
      | refine LeO.bind ?_ (fun _ => ?_)
set_option maxHeartbeats 8000000 in
set_option maxRecDepth 100000 in
theorem bits_TakeInt.calls (k : Nat) (A0_0 : Option Addr) (c0_0 : Nat) (l0_0 : List Int) (a0_1 : Int) (a1 : Int) (r1 : Int) (r2 : Int) (r3 : Int) (w : World) (hr0_0 : Kd.C (Kd.int .u8) w A0_0 l0_0.length l0_0) (hc0_0 : l0_0.length ≤ c0_0) (h : bits_TakeInt.f k l0_0 a0_1 a1 = some (r1, r2, r3)) :
    Calls Tryd.prog 112 #[.agg #[.slice A0_0 l0_0.length c0_0, .int .i64 a0_1], .int .i64 a1] w fun e w' => e = .returned (.tuple #[.int .i64 r1, .int .i64 r2, .int .i64 r3]) ∧ Below w.heap.size w w' := by
  have hu99 := Tryd.underlying99
  have HR0_0 := Aside0.mk hr0_0
  have HC0_0 := Aside0.mk hc0_0
  clear hr0_0 hc0_0
  have HB := Aside0.mk (Below.refl w.heap.size w)
  have H : ((bits_Can.f l0_0 a0_1).bind fun t139 => (if t139 = true then (if a1 < 0 then (bits_TakeInt.j0 k a1 true l0_0 a0_1) else (bits_TakeInt.j0 k a1 (decide (a1 > a0_1)) l0_0 a0_1)) else (bits_TakeInt.j0 k a1 true l0_0 a0_1))) = some (r1, r2, r3) := h
  clear h
  have HC3 := Aside0.mk H
  clear H
  go_enter Tryd.func112, Tryd.ntmps112
  go_upto_region 1 with (first | ((with_reducible refine gate_dst (N := 2) rfl ?_); refine box_event ?hg (N := 2) ?hd (cs := #[.slice A0_0 l0_0.length c0_0, .int .i64 a0_1]) (t := 99) ?hr ?_; (case hd => rfl); (case hg => rfl); (case hr => first | (go_simp; done) | (go_simp; rfl)); intro gb138 hg w4 hbox hb; have n0_ := Aside0.mk (below_step (by repeat (first | (with_reducible first | exact HB.out | apply below_alloc | apply pw_below_drewN | apply below_drew1) | exact HB.out)) hb); have n1_ := Aside0.mk (hbox); have n2_ := Aside0.mk ((by rw [hg]; exact (below_size (by repeat (first | (with_reducible first | exact HB.out | apply below_alloc | apply pw_below_drewN | apply below_drew1) | exact HB.out))) : w.heap.size ≤ gb138)); have n3_ := Aside0.mk ((by rw [hg]; exact (below_size (by repeat (first | (with_reducible first | exact HB.out | apply below_alloc | apply pw_below_drewN | apply below_drew1) | exact HB.out))) : w.heap.size ≤ gb138)); clear HB; have HB := n0_; have BK138 := n1_; have GW138 := n2_; have GE138 := n3_; clear n0_ n1_ n2_ n3_; clear hb hbox hg))
  (try simp only [Act.put, List.setIfInBounds_toArray, List.set_cons_zero, List.set_cons_succ])
  go_cut [26] (fun v26 wc => ∃ (kq : Nat) (x26_2 : Bool), v26 = .bool x26_2 ∧ Aside0 (bits_TakeInt.j0 kq a1 x26_2 l0_0 a0_1 = some (r1, r2, r3)) ∧ Aside0 (kq ≤ k) ∧ Aside0 (wc.heap[gb138]? = some (.cells #[(.slice A0_0 l0_0.length c0_0), .int .i64 a0_1] 99 (0, 0))) ∧ Aside0 (Below w.heap.size w wc))
  case first =>
    have H := HC3.out
    clear HC3
    replace H := Option.bind_eq_some_iff.mp H
    obtain ⟨t139, A50, H⟩ := H
    replace H : (if t139 = true then (if a1 < 0 then (bits_TakeInt.j0 k a1 true l0_0 a0_1) else (bits_TakeInt.j0 k a1 (decide (a1 > a0_1)) l0_0 a0_1)) else (bits_TakeInt.j0 k a1 true l0_0 a0_1)) = some (r1, r2, r3) := H
    have A5 := Aside0.mk A50
    clear A50
    by_cases c6 : t139 = true
    · subst c6
      have H1 : (if a1 < 0 then (bits_TakeInt.j0 k a1 true l0_0 a0_1) else (bits_TakeInt.j0 k a1 (decide (a1 > a0_1)) l0_0 a0_1)) = some (r1, r2, r3) := by rw [if_pos rfl] at H; exact H
      clear H
      have H := H1
      clear H1
      by_cases c7 : a1 < 0
      · rw [if_pos c7] at H
        have c7b0 : decide (a1 < 0) = true := decide_eq_true c7
        clear c7
        (first | rw [c7b0] | (simp only [i64_w, i32_w]; rw [c7b0]) | skip)
        have H' := Aside0.mk H
        clear H
        have hcz8_0 : w4.cell? ⟨gb138, 0, none⟩ = some (.slice A0_0 l0_0.length c0_0) := (blk_cell BK138.out 0).trans rfl
        have hcz8_1 : w4.cell? ⟨gb138, 1, none⟩ = some (.int .i64 a0_1) := (blk_cell BK138.out 1).trans rfl
        have hfz8_0 := blk_frozen BK138.out 0
        have hfz8_1 := blk_frozen BK138.out 1
        go_wp2_with (first | ((with_reducible refine gate_callee (f := 113) rfl ?_); refine goesL_ (some 15) rfl rfl Tryd.func113 (by kernel_rfl) rfl #[.agg #[.slice A0_0 l0_0.length c0_0, .int .i64 a0_1]] rfl (by (try simp only [List.map_toArray, List.map_cons, List.map_nil]); first | done | rfl | (simp only [List.length_drop, List.length_take]; rfl)) ?_; (with_reducible refine (bits_Can.calls _ _ l0_0 a0_1 true _ ?side1 ?side2 A5.out).mono ?_); (case side1 => repeat (first | exact (Kd.C_below HR0_0.out HB.out) | (with_reducible refine Kd.C_alloc ?_ _) | (with_reducible refine Kd.C_drewN ?_ _) | (with_reducible refine Kd.C_drew ?_))); (case side2 => exact HC0_0.out); rintro e w9 ⟨rfl, hb⟩; refine ⟨_, rfl, ?_⟩; have n0_ := Aside0.mk (blk_below (g := gb138) (o := .cells #[.slice A0_0 l0_0.length c0_0, .int .i64 a0_1] 99 (0, 0)) (by (with_reducible repeat (first | refine blk_drewN ?_ _ | refine blk_drew ?_ | refine blk_alloc ?_ _)); exact BK138.out) hb); have n1_ := Aside0.mk (below_step (by repeat (first | (with_reducible first | exact HB.out | apply below_alloc | apply pw_below_drewN | apply below_drew1 | refine below_set ?_ GE138.out) | exact HB.out)) hb); clear BK138; clear HB; have BK138 := n0_; have HB := n1_; clear n0_ n1_; (try clear hb); (try clear hb2); (try clear hk); (try clear hi)))
        go_meet
        case rel => exact ⟨_, (true), (by first | rfl | (simp; done) | (simp [*]; done)), H', ⟨by first | omega | exact Nat.le_refl _⟩, ⟨by (with_reducible repeat (first | refine blk_drewN ?_ _ | refine blk_drew ?_ | refine blk_alloc ?_ _)); exact BK138.out⟩, ⟨by repeat (first | (with_reducible first | exact HB.out | apply below_alloc | apply pw_below_drewN | apply below_drew1 | refine below_set ?_ GE138.out) | exact HB.out)⟩⟩
      · rw [if_neg c7] at H
        have c7b0 : decide (a1 < 0) = false := decide_eq_false c7
        clear c7
        (first | rw [c7b0] | (simp only [i64_w, i32_w]; rw [c7b0]) | skip)
        have H' := Aside0.mk H
        clear H
        have hcz10_0 : w4.cell? ⟨gb138, 0, none⟩ = some (.slice A0_0 l0_0.length c0_0) := (blk_cell BK138.out 0).trans rfl
        have hcz10_1 : w4.cell? ⟨gb138, 1, none⟩ = some (.int .i64 a0_1) := (blk_cell BK138.out 1).trans rfl
        have hfz10_0 := blk_frozen BK138.out 0
        have hfz10_1 := blk_frozen BK138.out 1
        go_wp2_with (first | ((with_reducible refine gate_callee (f := 113) rfl ?_); refine goesL_ (some 15) rfl rfl Tryd.func113 (by kernel_rfl) rfl #[.agg #[.slice A0_0 l0_0.length c0_0, .int .i64 a0_1]] rfl (by (try simp only [List.map_toArray, List.map_cons, List.map_nil]); first | done | rfl | (simp only [List.length_drop, List.length_take]; rfl)) ?_; (with_reducible refine (bits_Can.calls _ _ l0_0 a0_1 true _ ?side1 ?side2 A5.out).mono ?_); (case side1 => repeat (first | exact (Kd.C_below HR0_0.out HB.out) | (with_reducible refine Kd.C_alloc ?_ _) | (with_reducible refine Kd.C_drewN ?_ _) | (with_reducible refine Kd.C_drew ?_))); (case side2 => exact HC0_0.out); rintro e w11 ⟨rfl, hb⟩; refine ⟨_, rfl, ?_⟩; have n0_ := Aside0.mk (blk_below (g := gb138) (o := .cells #[.slice A0_0 l0_0.length c0_0, .int .i64 a0_1] 99 (0, 0)) (by (with_reducible repeat (first | refine blk_drewN ?_ _ | refine blk_drew ?_ | refine blk_alloc ?_ _)); exact BK138.out) hb); have n1_ := Aside0.mk (below_step (by repeat (first | (with_reducible first | exact HB.out | apply below_alloc | apply pw_below_drewN | apply below_drew1 | refine below_set ?_ GE138.out) | exact HB.out)) hb); clear BK138; clear HB; have BK138 := n0_; have HB := n1_; clear n0_ n1_; (try clear hb); (try clear hb2); (try clear hk); (try clear hi); have hcz12_0 : w11.cell? ⟨gb138, 0, none⟩ = some (.slice A0_0 l0_0.length c0_0) := (blk_cell BK138.out 0).trans rfl; have hcz12_1 : w11.cell? ⟨gb138, 1, none⟩ = some (.int .i64 a0_1) := (blk_cell BK138.out 1).trans rfl; have hfz12_0 := blk_frozen BK138.out 0; have hfz12_1 := blk_frozen BK138.out 1))
        go_meet
        case rel => exact ⟨_, (decide (a1 > a0_1)), (by first | rfl | (simp; done) | (simp [*]; done)), H', ⟨by first | omega | exact Nat.le_refl _⟩, ⟨by (with_reducible repeat (first | refine blk_drewN ?_ _ | refine blk_drew ?_ | refine blk_alloc ?_ _)); exact BK138.out⟩, ⟨by repeat (first | (with_reducible first | exact HB.out | apply below_alloc | apply pw_below_drewN | apply below_drew1 | refine below_set ?_ GE138.out) | exact HB.out)⟩⟩
    · replace c6 := Bool.eq_false_iff.mpr c6
      subst c6
      have H1 : (bits_TakeInt.j0 k a1 true l0_0 a0_1) = some (r1, r2, r3) := by rw [if_neg (show ¬ (false = true) by decide)] at H; exact H
      clear H
      have H := H1
      clear H1
      have H' := Aside0.mk H
      clear H
      have hcz13_0 : w4.cell? ⟨gb138, 0, none⟩ = some (.slice A0_0 l0_0.length c0_0) := (blk_cell BK138.out 0).trans rfl
      have hcz13_1 : w4.cell? ⟨gb138, 1, none⟩ = some (.int .i64 a0_1) := (blk_cell BK138.out 1).trans rfl
      have hfz13_0 := blk_frozen BK138.out 0
      have hfz13_1 := blk_frozen BK138.out 1
      go_wp2_with (first | ((with_reducible refine gate_callee (f := 113) rfl ?_); refine goesL_ (some 15) rfl rfl Tryd.func113 (by kernel_rfl) rfl #[.agg #[.slice A0_0 l0_0.length c0_0, .int .i64 a0_1]] rfl (by (try simp only [List.map_toArray, List.map_cons, List.map_nil]); first | done | rfl | (simp only [List.length_drop, List.length_take]; rfl)) ?_; (with_reducible refine (bits_Can.calls _ _ l0_0 a0_1 false _ ?side1 ?side2 A5.out).mono ?_); (case side1 => repeat (first | exact (Kd.C_below HR0_0.out HB.out) | (with_reducible refine Kd.C_alloc ?_ _) | (with_reducible refine Kd.C_drewN ?_ _) | (with_reducible refine Kd.C_drew ?_))); (case side2 => exact HC0_0.out); rintro e w14 ⟨rfl, hb⟩; refine ⟨_, rfl, ?_⟩; have n0_ := Aside0.mk (blk_below (g := gb138) (o := .cells #[.slice A0_0 l0_0.length c0_0, .int .i64 a0_1] 99 (0, 0)) (by (with_reducible repeat (first | refine blk_drewN ?_ _ | refine blk_drew ?_ | refine blk_alloc ?_ _)); exact BK138.out) hb); have n1_ := Aside0.mk (below_step (by repeat (first | (with_reducible first | exact HB.out | apply below_alloc | apply pw_below_drewN | apply below_drew1 | refine below_set ?_ GE138.out) | exact HB.out)) hb); clear BK138; clear HB; have BK138 := n0_; have HB := n1_; clear n0_ n1_; (try clear hb); (try clear hb2); (try clear hk); (try clear hi)))
      go_meet
      case rel => exact ⟨_, (true), (by first | rfl | (simp; done) | (simp [*]; done)), H', ⟨by first | omega | exact Nat.le_refl _⟩, ⟨by (with_reducible repeat (first | refine blk_drewN ?_ _ | refine blk_drew ?_ | refine blk_alloc ?_ _)); exact BK138.out⟩, ⟨by repeat (first | (with_reducible first | exact HB.out | apply below_alloc | apply pw_below_drewN | apply below_drew1 | refine below_set ?_ GE138.out) | exact HB.out)⟩⟩
  case rest =>
    clear HC3
    try clear c1
    try clear p2
    try clear c6
    try clear c7
    try clear c7b0
    try clear c11
    try clear hcz10_0
    try clear hcz10_1
    try clear hcz12_0
    try clear hcz12_1
    try clear hcz13_0
    try clear hcz13_1
    try clear hcz8_0
    try clear hcz8_1
    try clear hfz10_0
    try clear hfz10_1
    try clear hfz12_0
    try clear hfz12_1
    try clear hfz13_0
    try clear hfz13_1
    try clear hfz8_0
    try clear hfz8_1
    obtain ⟨kq, x26_2, rfl, HA, HJ2, BK138, HB⟩ := hcut
    cases kq with
    | zero => exact absurd HA.out (by simp [bits_TakeInt.j0])
    | succ kj2 =>
      have H := HA.out
      clear HA
      simp only [bits_TakeInt.j0] at H
      by_cases c15 : x26_2 = true
      · subst c15
        have H1 : (some (0, 0, 1)) = some (r1, r2, r3) := by rw [if_pos rfl] at H; exact H
        clear H
        have H := H1
        clear H1
        simp only [Option.some.injEq, Prod.mk.injEq] at H
        obtain ⟨rfl, rfl, rfl⟩ := H
        go_wp2
        go_ret3
        exact ⟨by first | rfl | (simp [errW_none, errW_some] <;> rfl) | (simp [*, errW_none, errW_some] <;> rfl), by repeat (first | (with_reducible first | exact HB.out | apply below_alloc | apply pw_below_drewN | apply below_drew1 | refine below_set ?_ GE138.out) | exact HB.out)⟩
      · replace c15 := Bool.eq_false_iff.mpr c15
        subst c15
        have H1 : (bits_TakeInt.l0 kj2 a1 0 l0_0 a0_1) = some (r1, r2, r3) := by rw [if_neg (show ¬ (false = true) by decide)] at H; exact H
        clear H
        have H := H1
        clear H1
        have HC16 := Aside0.mk H
        clear H
        go_upto_block 0 with (fail)
        go_cut [1, 7] (fun v1 v7 wc => ∃ (kq : Nat) (x1_15 : Int) (x7_15 : Int), v1 = .int .i64 x1_15 ∧ v7 = .int .i64 x7_15 ∧ Aside0 (bits_TakeInt.j2 kq x1_15 x7_15 l0_0 a0_1 = some (r1, r2, r3)) ∧ Aside0 (kq ≤ kj2) ∧ Aside0 (wc.heap[gb138]? = some (.cells #[(.slice A0_0 l0_0.length c0_0), .int .i64 a0_1] 99 (0, 0))) ∧ Aside0 (Below w.heap.size w wc))
        case first =>
          have H := HC16.out
          clear HC16
          have H' := Aside0.mk H
          clear H
          go_wp2
          go_loopg [1, 7] kj2 (fun kq v1 v7 w' => ∃ (x1_2 : Int) (x7_2 : Int), v1 = .int .i64 x1_2 ∧ v7 = .int .i64 x7_2 ∧ Aside0 (bits_TakeInt.l0 kq x1_2 x7_2 l0_0 a0_1 = some (r1, r2, r3)) ∧ Aside0 (kq ≤ kj2) ∧ Aside0 (w'.heap[gb138]? = some (.cells #[(.slice A0_0 l0_0.length c0_0), .int .i64 a0_1] 99 (0, 0))) ∧ Aside0 (Below w.heap.size w w'))
          case atStart => exact ⟨(a1), (0), (by first | rfl | (simp; done) | (simp [*]; done)), (by first | rfl | (simp; done) | (simp [*]; done)), H', ⟨Nat.le_refl _⟩, ⟨by (with_reducible repeat (first | refine blk_drewN ?_ _ | refine blk_drew ?_ | refine blk_alloc ?_ _)); exact BK138.out⟩, ⟨by repeat (first | (with_reducible first | exact HB.out | apply below_alloc | apply pw_below_drewN | apply below_drew1 | refine below_set ?_ GE138.out) | exact HB.out)⟩⟩
          case round =>
            clear H'
            try clear c1
            try clear p2
            try clear c6
            try clear c7
            try clear c7b0
            try clear c11
            try clear c15
            try clear hcz10_0
            try clear hcz10_1
            try clear hcz12_0
            try clear hcz12_1
            try clear hcz13_0
            try clear hcz13_1
            try clear hcz8_0
            try clear hcz8_1
            try clear hfz10_0
            try clear hfz10_1
            try clear hfz12_0
            try clear hfz12_1
            try clear hfz13_0
            try clear hfz13_1
            try clear hfz8_0
            try clear hfz8_1
            try clear p2
            obtain ⟨x1_2, x7_2, rfl, rfl, HA, HK2, BK138, HB⟩ := hrel
            cases gk with
            | zero => exact absurd HA.out (by simp [bits_TakeInt.l0])
            | succ k2 =>
              have H := HA.out
              clear HA
              simp only [bits_TakeInt.l0] at H
              by_cases c17 : x7_2 < 4
              · rw [if_pos c17] at H
                have c17b0 : decide (x7_2 < 4) = true := decide_eq_true c17
                clear c17
                (first | rw [c17b0] | (simp only [i64_w, i32_w]; rw [c17b0]) | skip)
                replace H := Option.bind_eq_some_iff.mp H
                obtain ⟨⟨t140, t141⟩, A180, H⟩ := H
                replace H : (if t141 = 0 then (if t140 = 0 then (bits_TakeInt.j2 k2 (wrap64 (x1_2 + 1)) x7_2 l0_0 a0_1) else (bits_TakeInt.l0 k2 (wrap64 (x1_2 + 1)) (wrap64 (x7_2 + 1)) l0_0 a0_1)) else (some (0, 0, t141))) = some (r1, r2, r3) := H
                have A18 := Aside0.mk A180
                clear A180
                by_cases c19 : t141 = 0
                · rw [if_pos c19] at H
                  have c19b0 : (t141 == 0) = true := beq_iff_eq.mpr c19
                  have c19b1 : (t141 != 0) = false := bne_eq_false_iff_eq.mpr c19
                  clear c19
                  by_cases c20 : t140 = 0
                  · rw [if_pos c20] at H
                    have c20b0 : (t140 == 0) = true := beq_iff_eq.mpr c20
                    have c20b1 : (t140 != 0) = false := bne_eq_false_iff_eq.mpr c20
                    clear c20
                    have H' := Aside0.mk H
                    clear H
                    have hcz21_0 : wr.cell? ⟨gb138, 0, none⟩ = some (.slice A0_0 l0_0.length c0_0) := (blk_cell BK138.out 0).trans rfl
                    have hcz21_1 : wr.cell? ⟨gb138, 1, none⟩ = some (.int .i64 a0_1) := (blk_cell BK138.out 1).trans rfl
                    have hfz21_0 := blk_frozen BK138.out 0
                    have hfz21_1 := blk_frozen BK138.out 1
                    go_wp2_with (first | ((with_reducible refine gate_callee (f := 111) rfl ?_); refine goesL_ (some 32) rfl rfl Tryd.func111 (by kernel_rfl) rfl #[.agg #[.slice A0_0 l0_0.length c0_0, .int .i64 a0_1], .int .i64 x1_2, .int .i64 1] rfl (by (try simp only [List.map_toArray, List.map_cons, List.map_nil]); first | done | rfl | (simp only [List.length_drop, List.length_take]; rfl)) ?_; (with_reducible refine (bits_Take.calls k2 _ _ l0_0 a0_1 x1_2 1 t140 t141 _ ?side1 ?side2 A18.out).mono ?_); (case side1 => repeat (first | exact (Kd.C_below HR0_0.out HB.out) | (with_reducible refine Kd.C_alloc ?_ _) | (with_reducible refine Kd.C_drewN ?_ _) | (with_reducible refine Kd.C_drew ?_))); (case side2 => exact HC0_0.out); rintro e w22 ⟨rfl, hb⟩; refine ⟨_, rfl, ?_⟩; have n0_ := Aside0.mk (blk_below (g := gb138) (o := .cells #[.slice A0_0 l0_0.length c0_0, .int .i64 a0_1] 99 (0, 0)) (by (with_reducible repeat (first | refine blk_drewN ?_ _ | refine blk_drew ?_ | refine blk_alloc ?_ _)); exact BK138.out) hb); have n1_ := Aside0.mk (below_step (by repeat (first | (with_reducible first | exact HB.out | apply below_alloc | apply pw_below_drewN | apply below_drew1 | refine below_set ?_ GE138.out) | exact HB.out)) hb); clear BK138; clear HB; have BK138 := n0_; have HB := n1_; clear n0_ n1_; (try clear hb); (try clear hb2); (try clear hk); (try clear hi)))
                    go_meet
                    case rel => exact ⟨_, (wrap64 (x1_2 + 1)), (x7_2), (by first | rfl | (simp; done) | (simp [*]; done)), (by first | rfl | (simp; done) | (simp [*]; done)), H', ⟨by have := HJ2.out; have := HK2.out; first | omega | exact Nat.le_refl _⟩, ⟨by (with_reducible repeat (first | refine blk_drewN ?_ _ | refine blk_drew ?_ | refine blk_alloc ?_ _)); exact BK138.out⟩, ⟨by repeat (first | (with_reducible first | exact HB.out | apply below_alloc | apply pw_below_drewN | apply below_drew1 | refine below_set ?_ GE138.out) | exact HB.out)⟩⟩
                  · rw [if_neg c20] at H
                    have c20b0 : (t140 == 0) = false := beq_eq_false_iff_ne.mpr c20
                    have c20b1 : (t140 != 0) = true := bne_iff_ne.mpr c20
                    have H' := Aside0.mk H
                    clear H
                    have hcz23_0 : wr.cell? ⟨gb138, 0, none⟩ = some (.slice A0_0 l0_0.length c0_0) := (blk_cell BK138.out 0).trans rfl
                    have hcz23_1 : wr.cell? ⟨gb138, 1, none⟩ = some (.int .i64 a0_1) := (blk_cell BK138.out 1).trans rfl
                    have hfz23_0 := blk_frozen BK138.out 0
                    have hfz23_1 := blk_frozen BK138.out 1
                    go_wp2_with (first | ((with_reducible refine gate_callee (f := 111) rfl ?_); refine goesL_ (some 32) rfl rfl Tryd.func111 (by kernel_rfl) rfl #[.agg #[.slice A0_0 l0_0.length c0_0, .int .i64 a0_1], .int .i64 x1_2, .int .i64 1] rfl (by (try simp only [List.map_toArray, List.map_cons, List.map_nil]); first | done | rfl | (simp only [List.length_drop, List.length_take]; rfl)) ?_; (with_reducible refine (bits_Take.calls k2 _ _ l0_0 a0_1 x1_2 1 t140 t141 _ ?side1 ?side2 A18.out).mono ?_); (case side1 => repeat (first | exact (Kd.C_below HR0_0.out HB.out) | (with_reducible refine Kd.C_alloc ?_ _) | (with_reducible refine Kd.C_drewN ?_ _) | (with_reducible refine Kd.C_drew ?_))); (case side2 => exact HC0_0.out); rintro e w24 ⟨rfl, hb⟩; refine ⟨_, rfl, ?_⟩; have n0_ := Aside0.mk (blk_below (g := gb138) (o := .cells #[.slice A0_0 l0_0.length c0_0, .int .i64 a0_1] 99 (0, 0)) (by (with_reducible repeat (first | refine blk_drewN ?_ _ | refine blk_drew ?_ | refine blk_alloc ?_ _)); exact BK138.out) hb); have n1_ := Aside0.mk (below_step (by repeat (first | (with_reducible first | exact HB.out | apply below_alloc | apply pw_below_drewN | apply below_drew1 | refine below_set ?_ GE138.out) | exact HB.out)) hb); clear BK138; clear HB; have BK138 := n0_; have HB := n1_; clear n0_ n1_; (try clear hb); (try clear hb2); (try clear hk); (try clear hi)))
                    go_roundg k2
                    case measure => have := HJ2.out; have := HK2.out; omega
                    case rel => exact ⟨(wrap64 (x1_2 + 1)), (wrap64 (x7_2 + 1)), (by first | rfl | (simp; done) | (simp [*]; done)), (by first | rfl | (simp; done) | (simp [*]; done)), H', ⟨by have := HJ2.out; have := HK2.out; omega⟩, ⟨by (with_reducible repeat (first | refine blk_drewN ?_ _ | refine blk_drew ?_ | refine blk_alloc ?_ _)); exact BK138.out⟩, ⟨by repeat (first | (with_reducible first | exact HB.out | apply below_alloc | apply pw_below_drewN | apply below_drew1 | refine below_set ?_ GE138.out) | exact HB.out)⟩⟩
                · rw [if_neg c19] at H
                  have c19b0 : (t141 == 0) = false := beq_eq_false_iff_ne.mpr c19
                  have c19b1 : (t141 != 0) = true := bne_iff_ne.mpr c19
                  simp only [Option.some.injEq, Prod.mk.injEq] at H
                  obtain ⟨rfl, rfl, rfl⟩ := H
                  have hcz25_0 : wr.cell? ⟨gb138, 0, none⟩ = some (.slice A0_0 l0_0.length c0_0) := (blk_cell BK138.out 0).trans rfl
                  have hcz25_1 : wr.cell? ⟨gb138, 1, none⟩ = some (.int .i64 a0_1) := (blk_cell BK138.out 1).trans rfl
                  have hfz25_0 := blk_frozen BK138.out 0
                  have hfz25_1 := blk_frozen BK138.out 1
                  go_wp2_with (first | ((with_reducible refine gate_callee (f := 111) rfl ?_); refine goesL_ (some 32) rfl rfl Tryd.func111 (by kernel_rfl) rfl #[.agg #[.slice A0_0 l0_0.length c0_0, .int .i64 a0_1], .int .i64 x1_2, .int .i64 1] rfl (by (try simp only [List.map_toArray, List.map_cons, List.map_nil]); first | done | rfl | (simp only [List.length_drop, List.length_take]; rfl)) ?_; (with_reducible refine (bits_Take.calls k2 _ _ l0_0 a0_1 x1_2 1 t140 t141 _ ?side1 ?side2 A18.out).mono ?_); (case side1 => repeat (first | exact (Kd.C_below HR0_0.out HB.out) | (with_reducible refine Kd.C_alloc ?_ _) | (with_reducible refine Kd.C_drewN ?_ _) | (with_reducible refine Kd.C_drew ?_))); (case side2 => exact HC0_0.out); rintro e w26 ⟨rfl, hb⟩; refine ⟨_, rfl, ?_⟩; have n0_ := Aside0.mk (blk_below (g := gb138) (o := .cells #[.slice A0_0 l0_0.length c0_0, .int .i64 a0_1] 99 (0, 0)) (by (with_reducible repeat (first | refine blk_drewN ?_ _ | refine blk_drew ?_ | refine blk_alloc ?_ _)); exact BK138.out) hb); have n1_ := Aside0.mk (below_step (by repeat (first | (with_reducible first | exact HB.out | apply below_alloc | apply pw_below_drewN | apply below_drew1 | refine below_set ?_ GE138.out) | exact HB.out)) hb); clear BK138; clear HB; have BK138 := n0_; have HB := n1_; clear n0_ n1_; (try clear hb); (try clear hb2); (try clear hk); (try clear hi)))
                  go_ret3
                  exact ⟨by first | rfl | (simp [errW_none, errW_some] <;> rfl) | (simp [*, errW_none, errW_some] <;> rfl), by repeat (first | (with_reducible first | exact HB.out | apply below_alloc | apply pw_below_drewN | apply below_drew1 | refine below_set ?_ GE138.out) | exact HB.out)⟩
              · rw [if_neg c17] at H
                have c17b0 : decide (x7_2 < 4) = false := decide_eq_false c17
                clear c17
                (first | rw [c17b0] | (simp only [i64_w, i32_w]; rw [c17b0]) | skip)
                have H' := Aside0.mk H
                clear H
                go_wp2
                go_meet
                case rel => exact ⟨_, (x1_2), (x7_2), (by first | rfl | (simp; done) | (simp [*]; done)), (by first | rfl | (simp; done) | (simp [*]; done)), H', ⟨by have := HJ2.out; have := HK2.out; first | omega | exact Nat.le_refl _⟩, ⟨by (with_reducible repeat (first | refine blk_drewN ?_ _ | refine blk_drew ?_ | refine blk_alloc ?_ _)); exact BK138.out⟩, ⟨by repeat (first | (with_reducible first | exact HB.out | apply below_alloc | apply pw_below_drewN | apply below_drew1 | refine below_set ?_ GE138.out) | exact HB.out)⟩⟩
        case rest =>
          clear HC16
          try clear c1
          try clear c2
          try clear p2
          try clear c6
          try clear p6
          try clear c7
          try clear c7b0
          try clear c11
          try clear c15
          try clear c17
          try clear c17b0
          try clear c19
          try clear c19b0
          try clear c19b1
          try clear c20
          try clear c20b0
          try clear c20b1
          try clear hcz10_0
          try clear hcz10_1
          try clear hcz12_0
          try clear hcz12_1
          try clear hcz13_0
          try clear hcz13_1
          try clear hcz21_0
          try clear hcz21_1
          try clear hcz23_0
          try clear hcz23_1
          try clear hcz25_0
          try clear hcz25_1
          try clear hcz8_0
          try clear hcz8_1
          try clear hfz10_0
          try clear hfz10_1
          try clear hfz12_0
          try clear hfz12_1
          try clear hfz13_0
          try clear hfz13_1
          try clear hfz21_0
          try clear hfz21_1
          try clear hfz23_0
          try clear hfz23_1
          try clear hfz25_0
          try clear hfz25_1
          try clear hfz8_0
          try clear hfz8_1
          try clear p2
          obtain ⟨kq, x1_15, x7_15, rfl, rfl, HA, HJ15, BK138, HB⟩ := hcut
          cases kq with
          | zero => exact absurd HA.out (by simp [bits_TakeInt.j2])
          | succ kj15 =>
            have H := HA.out
            clear HA
            simp only [bits_TakeInt.j2] at H
            replace H := Option.bind_eq_some_iff.mp H
            obtain ⟨t142, A270, H⟩ := H
            replace H : ((bits_Take.f kj15 l0_0 a0_1 x1_15 t142).bind fun bt143 => (if bt143.2 = 0 then (if t142 > 0 then (if 0 ≤ (wrap64 (64 - t142)) then ((bits_class.f kj15 (shr .i64 (wrap64 (shl .u64 bt143.1 (wrap64 (64 - t142)))) (wrap64 (64 - t142)))).bind fun t145 => (if t145 = x7_15 then (some (shr .i64 (wrap64 (shl .u64 bt143.1 (wrap64 (64 - t142)))) (wrap64 (64 - t142)), wrap64 (x1_15 + t142), 0)) else (some (0, 0, 5)))) else (none)) else ((bits_class.f kj15 (wrap64 (bt143.1))).bind fun t146 => (if t146 = x7_15 then (some (wrap64 (bt143.1), wrap64 (x1_15 + t142), 0)) else (some (0, 0, 5))))) else (some (0, 0, bt143.2)))) = some (r1, r2, r3) := H
            have A27 := Aside0.mk A270
            clear A270
            replace H := Option.bind_eq_some_iff.mp H
            obtain ⟨⟨t143, t144⟩, A280, H⟩ := H
            replace H : (if t144 = 0 then (if t142 > 0 then (if 0 ≤ (wrap64 (64 - t142)) then ((bits_class.f kj15 (shr .i64 (wrap64 (shl .u64 t143 (wrap64 (64 - t142)))) (wrap64 (64 - t142)))).bind fun t145 => (if t145 = x7_15 then (some (shr .i64 (wrap64 (shl .u64 t143 (wrap64 (64 - t142)))) (wrap64 (64 - t142)), wrap64 (x1_15 + t142), 0)) else (some (0, 0, 5)))) else (none)) else ((bits_class.f kj15 (wrap64 (t143))).bind fun t146 => (if t146 = x7_15 then (some (wrap64 (t143), wrap64 (x1_15 + t142), 0)) else (some (0, 0, 5))))) else (some (0, 0, t144))) = some (r1, r2, r3) := H
            have A28 := Aside0.mk A280
            clear A280
            by_cases c29 : t144 = 0
            · rw [if_pos c29] at H
              have c29b0 : (t144 == 0) = true := beq_iff_eq.mpr c29
              have c29b1 : (t144 != 0) = false := bne_eq_false_iff_eq.mpr c29
              clear c29
              by_cases c30 : t142 > 0
              · rw [if_pos c30] at H
                have c30b0 : decide (0 < t142) = true := decide_eq_true c30
                clear c30
                obtain ⟨ji31, hji31⟩ : ∃ j_ : Int, (wrap64 (64 - t142)) = j_ := ⟨_, rfl⟩
                replace H : (if 0 ≤ (ji31) then ((bits_class.f kj15 (shr .i64 (wrap64 (shl .u64 t143 (ji31))) (ji31))).bind fun t145 => (if t145 = x7_15 then (some (shr .i64 (wrap64 (shl .u64 t143 (ji31))) (ji31), wrap64 (x1_15 + t142), 0)) else (some (0, 0, 5)))) else (none)) = some (r1, r2, r3) := by first | (rw [hji31] at H; exact H) | (simp only [hji31] at H ⊢; exact H)
                (try rw [hji31] at A27)
                (try rw [hji31] at A28)
                have hji31w : (IntKind.i64.wrap (64 - t142)) = ji31 := (i64_w _).trans hji31
                by_cases c32 : 0 ≤ (ji31)
                · rw [if_pos c32] at H
                  have c32b0 := eq_true c32
                  have c32b1 : decide (0 ≤ (ji31)) = true := decide_eq_true c32
                  clear c32
                  obtain ⟨ji33, hji33⟩ : ∃ j_ : Int, (shl .u64 t143 (ji31)) = j_ := ⟨_, rfl⟩
                  replace H : ((bits_class.f kj15 (shr .i64 (wrap64 (ji33)) (ji31))).bind fun t145 => (if t145 = x7_15 then (some (shr .i64 (wrap64 (ji33)) (ji31), wrap64 (x1_15 + t142), 0)) else (some (0, 0, 5)))) = some (r1, r2, r3) := by first | (rw [hji33] at H; exact H) | (simp only [hji33] at H ⊢; exact H)
                  (try rw [hji33] at A27)
                  (try rw [hji33] at A28)
                  have hji33_ : (IntKind.u64.wrap (t143 * 2 ^ min (ji31).toNat 64)) = ji33 := hji33
                  have hji33z : (ji31) ≤ 64 → (IntKind.u64.wrap (t143 * 2 ^ (ji31).toNat)) = ji33 := shl_small hji33
                  have c34b0 := eq_true (of_decide_eq_true (by first | (with_reducible assumption) | assumption) : 0 ≤ (ji31))
                  obtain ⟨ji35, hji35⟩ : ∃ j_ : Int, (shr .i64 (wrap64 (ji33)) (ji31)) = j_ := ⟨_, rfl⟩
                  replace H : ((bits_class.f kj15 (ji35)).bind fun t145 => (if t145 = x7_15 then (some (ji35, wrap64 (x1_15 + t142), 0)) else (some (0, 0, 5)))) = some (r1, r2, r3) := by first | (rw [hji35] at H; exact H) | (simp only [hji35] at H ⊢; exact H)
                  (try rw [hji35] at A27)
                  (try rw [hji35] at A28)
                  have hji35_ : ((wrap64 (ji33)) / 2 ^ min (ji31).toNat 64) = ji35 := hji35
                  have hji35z : (ji31) ≤ 64 → ((wrap64 (ji33)) / 2 ^ (ji31).toNat) = ji35 := shr_small hji35
                  replace H := Option.bind_eq_some_iff.mp H
                  obtain ⟨t145, A360, H⟩ := H
                  replace H : (if t145 = x7_15 then (some (ji35, wrap64 (x1_15 + t142), 0)) else (some (0, 0, 5))) = some (r1, r2, r3) := H
                  have A36 := Aside0.mk A360
                  clear A360
                  by_cases c37 : t145 = x7_15
                  · rw [if_pos c37] at H
                    have c37b0 : (t145 == x7_15) = true := beq_iff_eq.mpr c37
                    have c37b1 : (t145 != x7_15) = false := bne_eq_false_iff_eq.mpr c37
                    clear c37
                    simp only [Option.some.injEq, Prod.mk.injEq] at H
                    obtain ⟨rfl, rfl, rfl⟩ := H
                    go_wp2_with (first | ((with_reducible refine gate_callee (f := 117) rfl ?_); refine goesL_ (some 45) rfl rfl Tryd.func117 (by kernel_rfl) rfl #[.int .i64 x7_15] rfl (by (try simp only [List.map_toArray, List.map_cons, List.map_nil]); first | done | rfl | (simp only [List.length_drop, List.length_take]; rfl)) ?_; (with_reducible refine (bits_width.calls x7_15 t142 _ A27.out).mono ?_); rintro e w' ⟨rfl, ⟨nd, rfl⟩⟩; refine ⟨_, rfl, ?_⟩; have hcz38_0 : wc.cell? ⟨gb138, 0, none⟩ = some (.slice A0_0 l0_0.length c0_0) := (blk_cell BK138.out 0).trans rfl; have hcz38_1 : wc.cell? ⟨gb138, 1, none⟩ = some (.int .i64 a0_1) := (blk_cell BK138.out 1).trans rfl; have hfz38_0 := blk_frozen BK138.out 0; have hfz38_1 := blk_frozen BK138.out 1) | ((with_reducible refine gate_callee (f := 111) rfl ?_); refine goesL_ (some 50) rfl rfl Tryd.func111 (by kernel_rfl) rfl #[.agg #[.slice A0_0 l0_0.length c0_0, .int .i64 a0_1], .int .i64 x1_15, .int .i64 t142] rfl (by (try simp only [List.map_toArray, List.map_cons, List.map_nil]); first | done | rfl | (simp only [List.length_drop, List.length_take]; rfl)) ?_; (with_reducible refine (bits_Take.calls kj15 _ _ l0_0 a0_1 x1_15 t142 t143 t144 _ ?side1 ?side2 A28.out).mono ?_); (case side1 => repeat (first | exact (Kd.C_below HR0_0.out (by repeat (first | (with_reducible first | exact HB.out | apply below_alloc | apply pw_below_drewN | apply below_drew1 | refine below_set ?_ GE138.out) | exact HB.out))) | (with_reducible refine Kd.C_alloc ?_ _) | (with_reducible refine Kd.C_drewN ?_ _) | (with_reducible refine Kd.C_drew ?_))); (case side2 => exact HC0_0.out); rintro e w39 ⟨rfl, hb⟩; refine ⟨_, rfl, ?_⟩; have n0_ := Aside0.mk (blk_below (g := gb138) (o := .cells #[.slice A0_0 l0_0.length c0_0, .int .i64 a0_1] 99 (0, 0)) (by (with_reducible repeat (first | refine blk_drewN ?_ _ | refine blk_drew ?_ | refine blk_alloc ?_ _)); exact BK138.out) hb); have n1_ := Aside0.mk (below_step (by repeat (first | (with_reducible first | exact HB.out | apply below_alloc | apply pw_below_drewN | apply below_drew1 | refine below_set ?_ GE138.out) | exact HB.out)) hb); clear BK138; clear HB; have BK138 := n0_; have HB := n1_; clear n0_ n1_; (try clear hb); (try clear hb2); (try clear hk); (try clear hi)) | ((with_reducible refine gate_callee (f := 116) rfl ?_); refine goesL_ (some 69) rfl rfl Tryd.func116 (by kernel_rfl) rfl #[.int .i64 ji35] rfl (by (try simp only [List.map_toArray, List.map_cons, List.map_nil]); first | done | (simp only [hji35]; rfl) | rfl | (simp only [List.length_drop, List.length_take]; rfl)) ?_; (with_reducible refine (bits_class.calls kj15 ji35 t145 _ A36.out).mono ?_); rintro e w' ⟨rfl, ⟨nd, rfl⟩⟩; refine ⟨_, rfl, ?_⟩))
                    go_ret3
                    exact ⟨by first | rfl | (simp [errW_none, errW_some] <;> rfl) | (simp only [← hji31, ← hji33, ← hji35]; first | rfl | (simp [errW_none, errW_some] <;> rfl)) | (simp [*, errW_none, errW_some] <;> rfl), by repeat (first | (with_reducible first | exact HB.out | apply below_alloc | apply pw_below_drewN | apply below_drew1 | refine below_set ?_ GE138.out) | exact HB.out)⟩
                  · rw [if_neg c37] at H
                    have c37b0 : (t145 == x7_15) = false := beq_eq_false_iff_ne.mpr c37
                    have c37b1 : (t145 != x7_15) = true := bne_iff_ne.mpr c37
                    simp only [Option.some.injEq, Prod.mk.injEq] at H
                    obtain ⟨rfl, rfl, rfl⟩ := H
                    go_wp2_with (first | ((with_reducible refine gate_callee (f := 117) rfl ?_); refine goesL_ (some 45) rfl rfl Tryd.func117 (by kernel_rfl) rfl #[.int .i64 x7_15] rfl (by (try simp only [List.map_toArray, List.map_cons, List.map_nil]); first | done | rfl | (simp only [List.length_drop, List.length_take]; rfl)) ?_; (with_reducible refine (bits_width.calls x7_15 t142 _ A27.out).mono ?_); rintro e w' ⟨rfl, ⟨nd, rfl⟩⟩; refine ⟨_, rfl, ?_⟩; have hcz40_0 : wc.cell? ⟨gb138, 0, none⟩ = some (.slice A0_0 l0_0.length c0_0) := (blk_cell BK138.out 0).trans rfl; have hcz40_1 : wc.cell? ⟨gb138, 1, none⟩ = some (.int .i64 a0_1) := (blk_cell BK138.out 1).trans rfl; have hfz40_0 := blk_frozen BK138.out 0; have hfz40_1 := blk_frozen BK138.out 1) | ((with_reducible refine gate_callee (f := 111) rfl ?_); refine goesL_ (some 50) rfl rfl Tryd.func111 (by kernel_rfl) rfl #[.agg #[.slice A0_0 l0_0.length c0_0, .int .i64 a0_1], .int .i64 x1_15, .int .i64 t142] rfl (by (try simp only [List.map_toArray, List.map_cons, List.map_nil]); first | done | rfl | (simp only [List.length_drop, List.length_take]; rfl)) ?_; (with_reducible refine (bits_Take.calls kj15 _ _ l0_0 a0_1 x1_15 t142 t143 t144 _ ?side1 ?side2 A28.out).mono ?_); (case side1 => repeat (first | exact (Kd.C_below HR0_0.out (by repeat (first | (with_reducible first | exact HB.out | apply below_alloc | apply pw_below_drewN | apply below_drew1 | refine below_set ?_ GE138.out) | exact HB.out))) | (with_reducible refine Kd.C_alloc ?_ _) | (with_reducible refine Kd.C_drewN ?_ _) | (with_reducible refine Kd.C_drew ?_))); (case side2 => exact HC0_0.out); rintro e w41 ⟨rfl, hb⟩; refine ⟨_, rfl, ?_⟩; have n0_ := Aside0.mk (blk_below (g := gb138) (o := .cells #[.slice A0_0 l0_0.length c0_0, .int .i64 a0_1] 99 (0, 0)) (by (with_reducible repeat (first | refine blk_drewN ?_ _ | refine blk_drew ?_ | refine blk_alloc ?_ _)); exact BK138.out) hb); have n1_ := Aside0.mk (below_step (by repeat (first | (with_reducible first | exact HB.out | apply below_alloc | apply pw_below_drewN | apply below_drew1 | refine below_set ?_ GE138.out) | exact HB.out)) hb); clear BK138; clear HB; have BK138 := n0_; have HB := n1_; clear n0_ n1_; (try clear hb); (try clear hb2); (try clear hk); (try clear hi)) | ((with_reducible refine gate_callee (f := 116) rfl ?_); refine goesL_ (some 69) rfl rfl Tryd.func116 (by kernel_rfl) rfl #[.int .i64 ji35] rfl (by (try simp only [List.map_toArray, List.map_cons, List.map_nil]); first | done | (simp only [hji35]; rfl) | rfl | (simp only [List.length_drop, List.length_take]; rfl)) ?_; (with_reducible refine (bits_class.calls kj15 ji35 t145 _ A36.out).mono ?_); rintro e w' ⟨rfl, ⟨nd, rfl⟩⟩; refine ⟨_, rfl, ?_⟩))
                    go_ret3
                    exact ⟨by first | rfl | (simp [errW_none, errW_some] <;> rfl) | (simp only [← hji31, ← hji33, ← hji35]; first | rfl | (simp [errW_none, errW_some] <;> rfl)) | (simp [*, errW_none, errW_some] <;> rfl), by repeat (first | (with_reducible first | exact HB.out | apply below_alloc | apply pw_below_drewN | apply below_drew1 | refine below_set ?_ GE138.out) | exact HB.out)⟩
                · rw [if_neg c32] at H
                  exact absurd H (by simp)
              · rw [if_neg c30] at H
                have c30b0 : decide (0 < t142) = false := decide_eq_false c30
                clear c30
                replace H := Option.bind_eq_some_iff.mp H
                obtain ⟨t146, A420, H⟩ := H
                replace H : (if t146 = x7_15 then (some (wrap64 (t143), wrap64 (x1_15 + t142), 0)) else (some (0, 0, 5))) = some (r1, r2, r3) := H
                have A42 := Aside0.mk A420
                clear A420
                by_cases c43 : t146 = x7_15
                · rw [if_pos c43] at H
                  have c43b0 : (t146 == x7_15) = true := beq_iff_eq.mpr c43
                  have c43b1 : (t146 != x7_15) = false := bne_eq_false_iff_eq.mpr c43
                  clear c43
                  simp only [Option.some.injEq, Prod.mk.injEq] at H
                  obtain ⟨rfl, rfl, rfl⟩ := H
                  go_wp2_with (first | ((with_reducible refine gate_callee (f := 117) rfl ?_); refine goesL_ (some 45) rfl rfl Tryd.func117 (by kernel_rfl) rfl #[.int .i64 x7_15] rfl (by (try simp only [List.map_toArray, List.map_cons, List.map_nil]); first | done | rfl | (simp only [List.length_drop, List.length_take]; rfl)) ?_; (with_reducible refine (bits_width.calls x7_15 t142 _ A27.out).mono ?_); rintro e w' ⟨rfl, ⟨nd, rfl⟩⟩; refine ⟨_, rfl, ?_⟩; have hcz44_0 : wc.cell? ⟨gb138, 0, none⟩ = some (.slice A0_0 l0_0.length c0_0) := (blk_cell BK138.out 0).trans rfl; have hcz44_1 : wc.cell? ⟨gb138, 1, none⟩ = some (.int .i64 a0_1) := (blk_cell BK138.out 1).trans rfl; have hfz44_0 := blk_frozen BK138.out 0; have hfz44_1 := blk_frozen BK138.out 1) | ((with_reducible refine gate_callee (f := 111) rfl ?_); refine goesL_ (some 50) rfl rfl Tryd.func111 (by kernel_rfl) rfl #[.agg #[.slice A0_0 l0_0.length c0_0, .int .i64 a0_1], .int .i64 x1_15, .int .i64 t142] rfl (by (try simp only [List.map_toArray, List.map_cons, List.map_nil]); first | done | rfl | (simp only [List.length_drop, List.length_take]; rfl)) ?_; (with_reducible refine (bits_Take.calls kj15 _ _ l0_0 a0_1 x1_15 t142 t143 t144 _ ?side1 ?side2 A28.out).mono ?_); (case side1 => repeat (first | exact (Kd.C_below HR0_0.out (by repeat (first | (with_reducible first | exact HB.out | apply below_alloc | apply pw_below_drewN | apply below_drew1 | refine below_set ?_ GE138.out) | exact HB.out))) | (with_reducible refine Kd.C_alloc ?_ _) | (with_reducible refine Kd.C_drewN ?_ _) | (with_reducible refine Kd.C_drew ?_))); (case side2 => exact HC0_0.out); rintro e w45 ⟨rfl, hb⟩; refine ⟨_, rfl, ?_⟩; have n0_ := Aside0.mk (blk_below (g := gb138) (o := .cells #[.slice A0_0 l0_0.length c0_0, .int .i64 a0_1] 99 (0, 0)) (by (with_reducible repeat (first | refine blk_drewN ?_ _ | refine blk_drew ?_ | refine blk_alloc ?_ _)); exact BK138.out) hb); have n1_ := Aside0.mk (below_step (by repeat (first | (with_reducible first | exact HB.out | apply below_alloc | apply pw_below_drewN | apply below_drew1 | refine below_set ?_ GE138.out) | exact HB.out)) hb); clear BK138; clear HB; have BK138 := n0_; have HB := n1_; clear n0_ n1_; (try clear hb); (try clear hb2); (try clear hk); (try clear hi)) | ((with_reducible refine gate_callee (f := 116) rfl ?_); refine goesL_ (some 69) rfl rfl Tryd.func116 (by kernel_rfl) rfl #[.int .i64 (wrap64 (t143))] rfl (by (try simp only [List.map_toArray, List.map_cons, List.map_nil]); first | done | rfl | (simp only [List.length_drop, List.length_take]; rfl)) ?_; (with_reducible refine (bits_class.calls kj15 (wrap64 (t143)) t146 _ A42.out).mono ?_); rintro e w' ⟨rfl, ⟨nd, rfl⟩⟩; refine ⟨_, rfl, ?_⟩))
                  go_ret3
                  exact ⟨by first | rfl | (simp [errW_none, errW_some] <;> rfl) | (simp [*, errW_none, errW_some] <;> rfl), by repeat (first | (with_reducible first | exact HB.out | apply below_alloc | apply pw_below_drewN | apply below_drew1 | refine below_set ?_ GE138.out) | exact HB.out)⟩
                · rw [if_neg c43] at H
                  have c43b0 : (t146 == x7_15) = false := beq_eq_false_iff_ne.mpr c43
                  have c43b1 : (t146 != x7_15) = true := bne_iff_ne.mpr c43
                  simp only [Option.some.injEq, Prod.mk.injEq] at H
                  obtain ⟨rfl, rfl, rfl⟩ := H
                  go_wp2_with (first | ((with_reducible refine gate_callee (f := 117) rfl ?_); refine goesL_ (some 45) rfl rfl Tryd.func117 (by kernel_rfl) rfl #[.int .i64 x7_15] rfl (by (try simp only [List.map_toArray, List.map_cons, List.map_nil]); first | done | rfl | (simp only [List.length_drop, List.length_take]; rfl)) ?_; (with_reducible refine (bits_width.calls x7_15 t142 _ A27.out).mono ?_); rintro e w' ⟨rfl, ⟨nd, rfl⟩⟩; refine ⟨_, rfl, ?_⟩; have hcz46_0 : wc.cell? ⟨gb138, 0, none⟩ = some (.slice A0_0 l0_0.length c0_0) := (blk_cell BK138.out 0).trans rfl; have hcz46_1 : wc.cell? ⟨gb138, 1, none⟩ = some (.int .i64 a0_1) := (blk_cell BK138.out 1).trans rfl; have hfz46_0 := blk_frozen BK138.out 0; have hfz46_1 := blk_frozen BK138.out 1) | ((with_reducible refine gate_callee (f := 111) rfl ?_); refine goesL_ (some 50) rfl rfl Tryd.func111 (by kernel_rfl) rfl #[.agg #[.slice A0_0 l0_0.length c0_0, .int .i64 a0_1], .int .i64 x1_15, .int .i64 t142] rfl (by (try simp only [List.map_toArray, List.map_cons, List.map_nil]); first | done | rfl | (simp only [List.length_drop, List.length_take]; rfl)) ?_; (with_reducible refine (bits_Take.calls kj15 _ _ l0_0 a0_1 x1_15 t142 t143 t144 _ ?side1 ?side2 A28.out).mono ?_); (case side1 => repeat (first | exact (Kd.C_below HR0_0.out (by repeat (first | (with_reducible first | exact HB.out | apply below_alloc | apply pw_below_drewN | apply below_drew1 | refine below_set ?_ GE138.out) | exact HB.out))) | (with_reducible refine Kd.C_alloc ?_ _) | (with_reducible refine Kd.C_drewN ?_ _) | (with_reducible refine Kd.C_drew ?_))); (case side2 => exact HC0_0.out); rintro e w47 ⟨rfl, hb⟩; refine ⟨_, rfl, ?_⟩; have n0_ := Aside0.mk (blk_below (g := gb138) (o := .cells #[.slice A0_0 l0_0.length c0_0, .int .i64 a0_1] 99 (0, 0)) (by (with_reducible repeat (first | refine blk_drewN ?_ _ | refine blk_drew ?_ | refine blk_alloc ?_ _)); exact BK138.out) hb); have n1_ := Aside0.mk (below_step (by repeat (first | (with_reducible first | exact HB.out | apply below_alloc | apply pw_below_drewN | apply below_drew1 | refine below_set ?_ GE138.out) | exact HB.out)) hb); clear BK138; clear HB; have BK138 := n0_; have HB := n1_; clear n0_ n1_; (try clear hb); (try clear hb2); (try clear hk); (try clear hi)) | ((with_reducible refine gate_callee (f := 116) rfl ?_); refine goesL_ (some 69) rfl rfl Tryd.func116 (by kernel_rfl) rfl #[.int .i64 (wrap64 (t143))] rfl (by (try simp only [List.map_toArray, List.map_cons, List.map_nil]); first | done | rfl | (simp only [List.length_drop, List.length_take]; rfl)) ?_; (with_reducible refine (bits_class.calls kj15 (wrap64 (t143)) t146 _ A42.out).mono ?_); rintro e w' ⟨rfl, ⟨nd, rfl⟩⟩; refine ⟨_, rfl, ?_⟩))
                  go_ret3
                  exact ⟨by first | rfl | (simp [errW_none, errW_some] <;> rfl) | (simp [*, errW_none, errW_some] <;> rfl), by repeat (first | (with_reducible first | exact HB.out | apply below_alloc | apply pw_below_drewN | apply below_drew1 | refine below_set ?_ GE138.out) | exact HB.out)⟩
            · rw [if_neg c29] at H
              have c29b0 : (t144 == 0) = false := beq_eq_false_iff_ne.mpr c29
              have c29b1 : (t144 != 0) = true := bne_iff_ne.mpr c29
              simp only [Option.some.injEq, Prod.mk.injEq] at H
              obtain ⟨rfl, rfl, rfl⟩ := H
              go_wp2_with (first | ((with_reducible refine gate_callee (f := 117) rfl ?_); refine goesL_ (some 45) rfl rfl Tryd.func117 (by kernel_rfl) rfl #[.int .i64 x7_15] rfl (by (try simp only [List.map_toArray, List.map_cons, List.map_nil]); first | done | rfl | (simp only [List.length_drop, List.length_take]; rfl)) ?_; (with_reducible refine (bits_width.calls x7_15 t142 _ A27.out).mono ?_); rintro e w' ⟨rfl, ⟨nd, rfl⟩⟩; refine ⟨_, rfl, ?_⟩; have hcz48_0 : wc.cell? ⟨gb138, 0, none⟩ = some (.slice A0_0 l0_0.length c0_0) := (blk_cell BK138.out 0).trans rfl; have hcz48_1 : wc.cell? ⟨gb138, 1, none⟩ = some (.int .i64 a0_1) := (blk_cell BK138.out 1).trans rfl; have hfz48_0 := blk_frozen BK138.out 0; have hfz48_1 := blk_frozen BK138.out 1) | ((with_reducible refine gate_callee (f := 111) rfl ?_); refine goesL_ (some 50) rfl rfl Tryd.func111 (by kernel_rfl) rfl #[.agg #[.slice A0_0 l0_0.length c0_0, .int .i64 a0_1], .int .i64 x1_15, .int .i64 t142] rfl (by (try simp only [List.map_toArray, List.map_cons, List.map_nil]); first | done | rfl | (simp only [List.length_drop, List.length_take]; rfl)) ?_; (with_reducible refine (bits_Take.calls kj15 _ _ l0_0 a0_1 x1_15 t142 t143 t144 _ ?side1 ?side2 A28.out).mono ?_); (case side1 => repeat (first | exact (Kd.C_below HR0_0.out (by repeat (first | (with_reducible first | exact HB.out | apply below_alloc | apply pw_below_drewN | apply below_drew1 | refine below_set ?_ GE138.out) | exact HB.out))) | (with_reducible refine Kd.C_alloc ?_ _) | (with_reducible refine Kd.C_drewN ?_ _) | (with_reducible refine Kd.C_drew ?_))); (case side2 => exact HC0_0.out); rintro e w49 ⟨rfl, hb⟩; refine ⟨_, rfl, ?_⟩; have n0_ := Aside0.mk (blk_below (g := gb138) (o := .cells #[.slice A0_0 l0_0.length c0_0, .int .i64 a0_1] 99 (0, 0)) (by (with_reducible repeat (first | refine blk_drewN ?_ _ | refine blk_drew ?_ | refine blk_alloc ?_ _)); exact BK138.out) hb); have n1_ := Aside0.mk (below_step (by repeat (first | (with_reducible first | exact HB.out | apply below_alloc | apply pw_below_drewN | apply below_drew1 | refine below_set ?_ GE138.out) | exact HB.out)) hb); clear BK138; clear HB; have BK138 := n0_; have HB := n1_; clear n0_ n1_; (try clear hb); (try clear hb2); (try clear hk); (try clear hi)))
              go_ret3
              exact ⟨by first | rfl | (simp [errW_none, errW_some] <;> rfl) | (simp [*, errW_none, errW_some] <;> rfl), by repeat (first | (with_reducible first | exact HB.out | apply below_alloc | apply pw_below_drewN | apply below_drew1 | refine below_set ?_ GE138.out) | exact HB.out)⟩
end Go.Proofs.YtbgmnmjokdfmlaaDoor.PA
namespace Go.Proofs.YtbgmnmjokdfmlaaDoor.PA
open Go.RowKit Go.Proofs.YtbgmnmjokdfmlaaDoor.G Go.Proofs.YtbgmnmjokdfmlaaDoorW.PrintWords Go.Proofs.YtbgmnmjokdfmlaaDoorW.PrintLast Go.Proofs.YtbgmnmjokdfmlaaDoorW.PrintMore
set_option linter.unusedVariables false
set_option linter.unusedSimpArgs false
attribute [local instance 10] Classical.propDecidable
theorem td8 (i : Nat) : Int.tdiv (i : Int) 8 = ((i / 8 : Nat) : Int) := rfl
theorem tm8 (i : Nat) : Int.tmod (i : Int) 8 = ((i % 8 : Nat) : Int) := rfl
theorem w64n {n : Nat} (h : n ≤ 9000000000000000000) : wrap64 (n : Int) = (n : Int) := w64 (by omega) (by omega)
theorem rd_nat (l : List Int) (i : Nat) : rd l (i : Int) = l.getD i 0 := by unfold rd; rw [Int.toNat_natCast]
theorem mask_zero (x t : Nat) : (x &&& (2 ^ t - 1) = 0) ↔ ∀ j, j < t → x.testBit j = false := by
  constructor
  · intro h j hj
    have : (x &&& (2 ^ t - 1)).testBit j = false := by rw [h]; exact Nat.zero_testBit j
    rw [Nat.testBit_and, Nat.testBit_two_pow_sub_one] at this
    simpa [hj] using this
  · intro h
    apply Nat.eq_of_testBit_eq
    intro j
    rw [Nat.testBit_and, Nat.testBit_two_pow_sub_one, Nat.zero_testBit]
    by_cases hj : j < t
    · rw [h j hj]; rfl
    · simp [hj]
theorem can_eq {l : List Int} (hl : OkL l) (hlen : l.length ≤ 1000000000) (N : Int) (h1 : -9223372036854775808 ≤ N) (h2 : N ≤ 9223372036854775807) :
    bits_Can.f l N = some (decide (0 ≤ N ∧ OkX l N.toNat)) := by
  unfold bits_Can.f
  have e0 : wrap64 (8 * (l.length : Int)) = ((8 * l.length : Nat) : Int) := by rw [show (8 * (l.length : Int)) = ((8 * l.length : Nat) : Int) by omega]; exact w64n (by omega)
  rw [e0]
  by_cases c1 : N < 0
  · rw [if_pos c1, decide_eq_false (by intro h; omega)]
  rw [if_neg c1]
  obtain ⟨n, rfl⟩ := Int.eq_ofNat_of_zero_le (by omega : 0 ≤ N)
  rw [Int.toNat_natCast]
  by_cases c2 : (n : Int) > ((8 * l.length : Nat) : Int)
  · rw [if_pos c2, decide_eq_false (by intro h; have := h.2.le; omega)]
  rw [if_neg c2]
  have e1 : wrap64 (((8 * l.length : Nat) : Int) - (n : Int)) = ((8 * l.length - n : Nat) : Int) := by rw [show (((8 * l.length : Nat) : Int) - (n : Int)) = ((8 * l.length - n : Nat) : Int) by omega]; exact w64n (by omega)
  rw [e1]
  by_cases c3 : ((8 * l.length - n : Nat) : Int) > 7
  · rw [if_pos c3, decide_eq_false (by intro h; have := h.2.near; omega)]
  rw [if_neg c3]
  by_cases c4 : ((8 * l.length - n : Nat) : Int) = 0
  · rw [if_pos c4, decide_eq_true ⟨by omega, hl, by omega, by omega, by intro i h1 h2; omega⟩]
  rw [if_neg c4]
  have e2 : wrap64 ((l.length : Int) - 1) = ((l.length - 1 : Nat) : Int) := by rw [show ((l.length : Int) - 1) = ((l.length - 1 : Nat) : Int) by omega]; exact w64n (by omega)
  rw [e2, if_pos (by omega), if_pos (by omega), if_pos (by omega), rd_nat]
  have hb := hl.at (l.length - 1)
  have ht : 8 * l.length - n < 8 := by omega
  have hs : (shl .u8 1 ((8 * l.length - n : Nat) : Int) - 1) % 256 = ((2 ^ (8 * l.length - n) - 1 : Nat) : Int) := by
    generalize 8 * l.length - n = j at ht
    have hj : j = 0 ∨ j = 1 ∨ j = 2 ∨ j = 3 ∨ j = 4 ∨ j = 5 ∨ j = 6 ∨ j = 7 := by omega
    rcases hj with h | h | h | h | h | h | h | h <;> subst h <;> decide +kernel
  have hp : 2 ^ (8 * l.length - n) ≤ 128 := Nat.le_trans (Nat.pow_le_pow_right (n := 2) (by decide) (show 8 * l.length - n ≤ 7 by omega)) (by decide)
  rw [hs, u8_and _ _ hb.1 hb.2 (by omega) (by omega), Int.toNat_natCast]
  congr 1
  have key : ((l.getD (l.length - 1) 0).toNat &&& (2 ^ (8 * l.length - n) - 1) = 0) ↔ (0 ≤ (n : Int) ∧ OkX l n) := by
    rw [mask_zero]
    constructor
    · intro h
      refine ⟨by omega, hl, by omega, by omega, ?_⟩
      intro i hi1 hi2
      unfold bit
      rw [show i / 8 = l.length - 1 by omega]
      exact h _ (by omega)
    · intro h j hj
      have := h.2.tail (8 * l.length - 1 - j) (by omega) (by omega)
      unfold bit at this
      rw [show (8 * l.length - 1 - j) / 8 = l.length - 1 by omega, show 7 - (8 * l.length - 1 - j) % 8 = j by omega] at this
      exact this
  by_cases h : 0 ≤ (n : Int) ∧ OkX l n
  · rw [decide_eq_true h, key.2 h]; rfl
  · rw [decide_eq_false h]
    have := mt key.1 h
    simp only [beq_eq_false_iff_ne, ne_eq]
    omega
theorem shl1 (T : Nat) (h : T ≤ 8) : IntKind.u64.wrap (shl .u64 1 (T : Int) - 1) = ((2 ^ T - 1 : Nat) : Int) := by
  have hj : T = 0 ∨ T = 1 ∨ T = 2 ∨ T = 3 ∨ T = 4 ∨ T = 5 ∨ T = 6 ∨ T = 7 ∨ T = 8 := by omega
  rcases hj with h | h | h | h | h | h | h | h | h <;> subst h <;> decide +kernel
theorem shr_nat (k : IntKind) (x j : Nat) (hj : j ≤ k.bits) : shr k (x : Int) (j : Int) = ((x / 2 ^ j : Nat) : Int) := by
  unfold shr
  rw [Int.toNat_natCast, Nat.min_eq_left hj]
  push_cast
  rfl
theorem u8wrap {x : Nat} (h : x < 256) : IntKind.u8.wrap (x : Int) = (x : Int) := by rw [IntKind.wrap_u8']; omega
theorem u64wrap {x : Nat} (h : x < 18446744073709551616) : IntKind.u64.wrap (x : Int) = (x : Int) := by simp [IntKind.wrap, IntKind.bits, IntKind.signed]; omega
theorem mod_pow_lt (x T : Nat) (h : T ≤ 8) : x % 2 ^ T < 256 := Nat.lt_of_lt_of_le (Nat.mod_lt _ (Nat.two_pow_pos _)) (Nat.le_trans (Nat.pow_le_pow_right (n := 2) (by decide) h) (by decide))
theorem addT_nat (n c : Nat) : addT (n : Int) (c : Int) = ((min c (8 - n % 8) : Nat) : Int) := by
  unfold addT
  split <;> omega
theorem addP_nat (n v c : Nat) (hv : v < 18446744073709551616) (hc : c ≤ 64) : addP (n : Int) (v : Int) (c : Int) = ((v / 2 ^ (c - min c (8 - n % 8)) % 2 ^ (min c (8 - n % 8)) : Nat) : Int) := by
  unfold addP
  rw [addT_nat]
  generalize hT : min c (8 - n % 8) = T
  have hT8 : T ≤ 8 := by omega
  have hd : v / 2 ^ (c - T) ≤ v := Nat.div_le_self _ _
  rw [show ((c : Int) - (T : Int)) = ((c - T : Nat) : Int) by omega, shr_nat _ _ _ (by simp [IntKind.bits]; omega), shl1 T hT8, u64_and _ _ (Int.natCast_nonneg _) (by omega) (Int.natCast_nonneg _) ?_, Int.toNat_natCast, Int.toNat_natCast, Nat.and_two_pow_sub_one_eq_mod]
  · have := mod_pow_lt (v / 2 ^ (c - T)) T hT8
    omega
  · have : 2 ^ T ≤ 256 := Nat.le_trans (Nat.pow_le_pow_right (n := 2) (by decide) hT8) (by decide)
    omega
theorem addS_nat {l : List Int} {n : Nat} (h : OkX l n) (v c : Nat) (hv : v < 18446744073709551616) (hc0 : 0 < c) (hc : c ≤ 64) :
    addS l (n : Int) (v : Int) (c : Int) = orAt (addZ l n) (n / 8) ((v / 2 ^ (c - min c (8 - n % 8)) % 2 ^ (min c (8 - n % 8))) * 2 ^ (8 - n % 8 - min c (8 - n % 8))) := by
  have e : addL l (n : Int) = addZ l n := by
    unfold addL addZ
    by_cases h0 : n % 8 = 0
    · rw [if_pos h0, if_pos (by omega)]
    · rw [if_neg h0, if_neg (by omega)]
  unfold addS orAt
  rw [e, addZ_len h, Nat.add_sub_cancel]
  congr 1
  have hzok : OkL (addZ l n) := by
    unfold addZ
    split
    · intro x hx
      rcases List.mem_append.1 hx with hx | hx
      · exact h.bytes x hx
      · simp at hx; subst hx; decide
    · exact h.bytes
  have hb := hzok.at (n / 8)
  generalize (addZ l n).getD (n / 8) 0 = b at hb
  unfold addB
  rw [addP_nat n v c hv hc, addT_nat]
  generalize hT : min c (8 - n % 8) = T
  have hT8 : T ≤ 8 - n % 8 := by omega
  have hX := Nat.mod_lt (v / 2 ^ (c - T)) (Nat.two_pow_pos T)
  generalize v / 2 ^ (c - T) % 2 ^ T = X at hX
  have hXs : X * 2 ^ (8 - n % 8 - T) < 256 := by
    calc X * 2 ^ (8 - n % 8 - T) < 2 ^ T * 2 ^ (8 - n % 8 - T) := Nat.mul_lt_mul_of_pos_right hX (Nat.two_pow_pos _)
      _ = 2 ^ (T + (8 - n % 8 - T)) := (Nat.pow_add _ _ _).symm
      _ ≤ 2 ^ 8 := Nat.pow_le_pow_right (by decide) (by omega)
      _ = 256 := by decide
  have hs : shl .u8 (X : Int) (8 - (n : Int) % 8 - (T : Int)) = ((X * 2 ^ (8 - n % 8 - T) : Nat) : Int) := by
    unfold shl
    rw [show (8 - (n : Int) % 8 - (T : Int)) = ((8 - n % 8 - T : Nat) : Int) by omega, Int.toNat_natCast, Nat.min_eq_left (by simp [IntKind.bits]; omega)]
    rw [← u8wrap hXs]
    congr 1
  rw [hs, u8_or _ _ hb.1 hb.2 (Int.natCast_nonneg _) (by omega), Int.toNat_natCast]
theorem add_ok (v : Nat) (hv : v < 18446744073709551616) : ∀ (c k n : Nat) (l : List Int), OkX l n → c ≤ 64 → c < k → l.length + c < 1000000000 →
    ∃ l', bits_add.l0 k l (n : Int) (v : Int) (c : Int) = some (l', ((n + c : Nat) : Int)) ∧ OkX l' (n + c) ∧ Bs l' (n + c) = Bs l n ++ low v c := by
  intro c
  induction c using Nat.strongRecOn with
  | ind c ih =>
    intro k n l h hc hk hl
    obtain ⟨k, rfl⟩ : ∃ k', k = k' + 1 := ⟨k - 1, by omega⟩
    have hle := h.le
    have hnr := h.near
    rw [bits_add.l0]
    by_cases h0 : c = 0
    · subst h0
      rw [if_pos (by omega)]
      exact ⟨l, rfl, h, by simp [low]⟩
    · rw [if_neg (by omega), if_pos ⟨by omega, by omega, by omega, by omega, by omega⟩, addS_nat h v c hv (by omega) hc, addT_nat]
      generalize hT : min c (8 - n % 8) = T
      have hs := put_step (X := v / 2 ^ (c - T) % 2 ^ T) h (show 0 < T by omega) (by omega) (Nat.mod_lt _ (Nat.two_pow_pos T))
      have hlen : (orAt (addZ l n) (n / 8) (v / 2 ^ (c - T) % 2 ^ T * 2 ^ (8 - n % 8 - T))).length = n / 8 + 1 := by unfold orAt; rw [List.length_set, addZ_len h]
      generalize orAt (addZ l n) (n / 8) (v / 2 ^ (c - T) % 2 ^ T * 2 ^ (8 - n % 8 - T)) = l1 at hs hlen
      obtain ⟨l', h1, h2, h3⟩ := ih (c - T) (by omega) k (n + T) l1 hs.1 (by omega) (by omega) (by omega)
      rw [show n + T + (c - T) = n + c by omega] at h1 h2 h3
      refine ⟨l', ?_, h2, ?_⟩
      · rw [show ((n : Int) + (T : Int)) = ((n + T : Nat) : Int) by omega, show ((c : Int) - (T : Int)) = ((c - T : Nat) : Int) by omega]
        exact h1
      · rw [h3, hs.2, List.append_assoc, ← low_split v c T (by omega)]
theorem one_bit (v i : Nat) (hv : v < 18446744073709551616) (hi : i ≤ 64) : (Go.bits .and .u64 (shr .u64 (v : Int) (i : Int)) 1 == 1) = v.testBit i := by
  have hd : v / 2 ^ i ≤ v := Nat.div_le_self _ _
  rw [shr_nat _ _ _ (by simp [IntKind.bits]; omega), u64_and _ _ (Int.natCast_nonneg _) (by omega) (by decide) (by decide), Int.toNat_natCast, show (1 : Int).toNat = 1 from rfl, nat_mask1, Nat.testBit_eq_decide_div_mod_eq]
  have h2 : v / 2 ^ i % 2 = 0 ∨ v / 2 ^ i % 2 = 1 := by omega
  rcases h2 with h2 | h2 <;> rw [h2] <;> rfl
end Go.Proofs.YtbgmnmjokdfmlaaDoor.PA
namespace Go.Proofs.YtbgmnmjokdfmlaaDoor.PA
open Go.RowKit Go.Proofs.YtbgmnmjokdfmlaaDoor.G Go.Proofs.YtbgmnmjokdfmlaaDoorW.PrintWords Go.Proofs.YtbgmnmjokdfmlaaDoorW.PrintLast Go.Proofs.YtbgmnmjokdfmlaaDoorW.PrintMore
set_option linter.unusedVariables false
set_option linter.unusedSimpArgs false
attribute [local instance 10] Classical.propDecidable
theorem num_lt64 (L : List Bool) (h : L.length ≤ 64) : num L < 18446744073709551616 :=
  Nat.lt_of_lt_of_le (num_lt L) (Nat.le_trans (Nat.pow_le_pow_right (n := 2) (by decide) h) (by decide))
theorem mask8 (T : Nat) (h : T ≤ 8) : ((shl .u8 1 (T : Int) - 1) % 256) = ((2 ^ T - 1 : Nat) : Int) := by
  have hj : T = 0 ∨ T = 1 ∨ T = 2 ∨ T = 3 ∨ T = 4 ∨ T = 5 ∨ T = 6 ∨ T = 7 ∨ T = 8 := by omega
  rcases hj with h | h | h | h | h | h | h | h | h <;> subst h <;> decide +kernel
theorem w64sub {a b : Nat} (h : b ≤ a) (ha : a < 9000000000000000000) : wrap64 ((a : Int) - (b : Int)) = ((a - b : Nat) : Int) := by
  rw [show ((a : Int) - (b : Int)) = ((a - b : Nat) : Int) by omega]
  exact w64n (by omega)
theorem w64add {a b : Nat} (ha : a + b < 9000000000000000000) : wrap64 ((a : Int) + (b : Int)) = ((a + b : Nat) : Int) := by
  rw [show ((a : Int) + (b : Int)) = ((a + b : Nat) : Int) by omega]
  exact w64n (by omega)
theorem stepE {k p c T x : Nat} {l : List Int} {N : Int} (hT : min c (8 - p % 8) = T) (hT9 : T ≤ 8 - p % 8) (hTc : T ≤ c) (hpT : p + T < 9000000000000000000) (hp8 : p / 8 < l.length) (hc64 : c < 9000000000000000000) :
    (if 0 ≤ (mn (wrap64 (8 - (Int.tmod (p : Int) 8))) (c : Int)) then (if 0 ≤ (wrap64 (Int.tdiv (p : Int) 8)) then (if (wrap64 (Int.tdiv (p : Int) 8)) < (l.length : Int) then (if 0 ≤ (wrap64 ((wrap64 (8 - (Int.tmod (p : Int) 8))) - (mn (wrap64 (8 - (Int.tmod (p : Int) 8))) (c : Int)))) then (bits_Take.l0 k (wrap64 ((p : Int) + (mn (wrap64 (8 - (Int.tmod (p : Int) 8))) (c : Int)))) (wrap64 ((c : Int) - (mn (wrap64 (8 - (Int.tmod (p : Int) 8))) (c : Int)))) (Go.bits .or .u64 (shl .u64 (x : Int) (mn (wrap64 (8 - (Int.tmod (p : Int) 8))) (c : Int))) (IntKind.u64.wrap (Go.bits .and .u8 (shr .u8 (rd l (wrap64 (Int.tdiv (p : Int) 8))) (wrap64 ((wrap64 (8 - (Int.tmod (p : Int) 8))) - (mn (wrap64 (8 - (Int.tmod (p : Int) 8))) (c : Int))))) (((shl .u8 1 (mn (wrap64 (8 - (Int.tmod (p : Int) 8))) (c : Int))) - 1) % 256)))) l N) else (none)) else (none)) else (none)) else (none)) =
    bits_Take.l0 k ((p + T : Nat) : Int) ((c - T : Nat) : Int) (Go.bits .or .u64 (shl .u64 (x : Int) (T : Int)) (IntKind.u64.wrap (Go.bits .and .u8 (shr .u8 (rd l ((p / 8 : Nat) : Int)) ((8 - p % 8 - T : Nat) : Int)) ((shl .u8 1 (T : Int) - 1) % 256)))) l N := by
  have e1 : wrap64 (8 - Int.tmod (p : Int) 8) = ((8 - p % 8 : Nat) : Int) := by
    rw [tm8]
    exact w64sub (a := 8) (Nat.le_of_lt (Nat.mod_lt p (by decide))) (by decide)
  have e2 : mn ((8 - p % 8 : Nat) : Int) (c : Int) = (T : Int) := by
    clear e1
    unfold mn
    split <;> omega
  have e3 : wrap64 (Int.tdiv (p : Int) 8) = ((p / 8 : Nat) : Int) := by
    clear e1 e2
    rw [td8]
    exact w64n (by omega)
  have e4 : wrap64 (((8 - p % 8 : Nat) : Int) - (T : Int)) = ((8 - p % 8 - T : Nat) : Int) := w64sub hT9 (by clear e1 e2 e3; omega)
  have e5 : wrap64 ((p : Int) + (T : Int)) = ((p + T : Nat) : Int) := w64add hpT
  have e6 : wrap64 ((c : Int) - (T : Int)) = ((c - T : Nat) : Int) := by
    clear e1 e2 e3 e4 e5
    exact w64sub hTc hc64
  rw [e1, e2, e3, e4, e5, e6]
  clear e1 e2 e3 e4 e5 e6
  rw [if_pos (by omega), if_pos (by omega), if_pos (by omega), if_pos (by omega)]
theorem btake_loop {l : List Int} (hl : OkL l) (hlen : l.length < 1000000000) (N : Int) : ∀ (c p k x : Nat), p + c ≤ 8 * l.length → c ≤ 64 → c < k → x * 2 ^ c + num (win l p c) < 18446744073709551616 →
    bits_Take.l0 k (p : Int) (c : Int) (x : Int) l N = some (((x * 2 ^ c + num (win l p c) : Nat) : Int), 0) := by
  intro c
  induction c using Nat.strongRecOn with
  | ind c ih =>
    intro p k x hp hc hk hx
    have HX := Aside0.mk hx
    clear hx
    obtain ⟨k, rfl⟩ : ∃ k', k = k' + 1 := ⟨k - 1, by omega⟩
    rw [bits_Take.l0]
    by_cases h0 : c = 0
    · subst h0
      rw [if_neg (by omega)]
      simp [win, num]
    · rw [if_pos (by omega)]
      obtain ⟨T, hT⟩ : ∃ T, min c (8 - p % 8) = T := ⟨_, rfl⟩
      have hT8 : T ≤ 8 := by omega
      have hT9 : T ≤ 8 - p % 8 := by omega
      have hTc : T ≤ c := by omega
      have hT0 : 0 < T := by omega
      have hp8 : p / 8 < l.length := by omega
      have hb := hl.at (p / 8)
      have hb256 : (l.getD (p / 8) 0).toNat < 256 := by omega
      have hpT : p + T < 9000000000000000000 := by omega
      have hpT2 : p + T + (c - T) ≤ 8 * l.length := by omega
      have hc2 : c - T ≤ 64 := by omega
      have hk2 : c - T < k := by omega
      have hlt2 : c - T < c := by omega
      have hwl : (win l p T).length ≤ 64 := by rw [win_length]; omega
      have hbb : (l.getD (p / 8) 0) = (((l.getD (p / 8) 0).toNat : Nat) : Int) := by omega
      have hTm : ((shl .u8 1 (T : Int) - 1) % 256) = ((2 ^ T - 1 : Nat) : Int) := by
        exact mask8 T hT8
      have h2T : 2 ^ T ≤ 256 := Nat.le_trans (Nat.pow_le_pow_right (n := 2) (by decide) hT8) (by decide)
      have hdl : (l.getD (p / 8) 0).toNat / 2 ^ (8 - p % 8 - T) < 256 := Nat.lt_of_le_of_lt (Nat.div_le_self _ _) hb256
      have hbits : 8 - p % 8 - T ≤ IntKind.u8.bits := by simp [IntKind.bits]; omega
      have h2T' : 2 ^ T - 1 < 256 := by omega
      have e7 : IntKind.u64.wrap (Go.bits .and .u8 (shr .u8 (rd l ((p / 8 : Nat) : Int)) ((8 - p % 8 - T : Nat) : Int)) ((shl .u8 1 (T : Int) - 1) % 256)) = ((num (win l p T) : Nat) : Int) := by
        rw [rd_nat, hbb, hTm, shr_nat _ _ _ hbits, u8_and _ _ (Int.natCast_nonneg _) (Int.ofNat_lt.2 hdl) (Int.natCast_nonneg _) (Int.ofNat_lt.2 h2T'), Int.toNat_natCast, Int.toNat_natCast, Nat.and_two_pow_sub_one_eq_mod, ← take_step l p T hb256 hT9]
        apply u64wrap
        exact num_lt64 _ hwl
      clear hdl h2T h2T'
      have hsum : x * 2 ^ c + num (win l p c) = (x * 2 ^ T + num (win l p T)) * 2 ^ (c - T) + num (win l (p + T) (c - T)) := by
        rw [win_split l p c T (by omega), num_append, win_length, Nat.add_mul, Nat.mul_assoc, ← Nat.pow_add, show T + (c - T) = c by omega]
        omega
      rw [hsum]
      have hx := HX.out
      rw [hsum] at hx
      clear HX hsum
      have hnT : num (win l p T) < 2 ^ T := by have := num_lt (win l p T); rwa [win_length] at this
      have hle : x * 2 ^ T + num (win l p T) ≤ (x * 2 ^ T + num (win l p T)) * 2 ^ (c - T) := Nat.le_mul_of_pos_right _ (Nat.two_pow_pos _)
      have hxT : x * 2 ^ T < 18446744073709551616 := Nat.lt_of_le_of_lt (Nat.le_trans (Nat.le_add_right _ _) (Nat.le_trans hle (Nat.le_add_right _ _))) hx
      have HX := Aside0.mk hx
      clear hx hle
      have hnm : num (win l p T) < 18446744073709551616 := num_lt64 _ hwl
      have e8 : shl .u64 (x : Int) (T : Int) = ((x * 2 ^ T : Nat) : Int) := by
        unfold shl
        rw [Int.toNat_natCast, Nat.min_eq_left (by simp [IntKind.bits]; omega), ← u64wrap hxT, Int.natCast_mul, Int.natCast_pow]
        rfl
      have e9 : Go.bits .or .u64 ((x * 2 ^ T : Nat) : Int) ((num (win l p T) : Nat) : Int) = ((x * 2 ^ T + num (win l p T) : Nat) : Int) := by
        rw [u64_or _ _ (Int.natCast_nonneg _) (Int.ofNat_lt.2 hxT) (Int.natCast_nonneg _) (Int.ofNat_lt.2 hnm), Int.toNat_natCast, Int.toNat_natCast, nat_join T _ _ (Nat.mul_mod_left _ _) hnT]
      rw [stepE (p := p) (c := c) (T := T) hT hT9 hTc hpT hp8 (Nat.lt_of_le_of_lt hc (by decide)), e7, e8, e9]
      exact ih (c - T) hlt2 (p + T) k _ hpT2 hc2 hk2 HX.out
noncomputable def takeR (l : List Int) (N p c : Int) : Int × Int :=
  if ¬ (0 ≤ N ∧ OkX l N.toNat) ∨ c < 0 ∨ 64 < c ∨ p < 0 ∨ N < p then (0, 1) else if N - p < c then (0, 3) else ((num (win l p.toNat c.toNat) : Nat), 0)
theorem btake_eq {l : List Int} (hl : OkL l) (hlen : l.length < 1000000000) (N p c : Int) (h1 : -9223372036854775808 ≤ N) (h2 : N ≤ 9223372036854775807) (k : Nat) (hk : 70 < k) : bits_Take.f k l N p c = some (takeR l N p c) := by
  unfold bits_Take.f takeR
  obtain ⟨k, rfl⟩ : ∃ k', k = k' + 1 := ⟨k - 1, by omega⟩
  rw [can_eq hl (by omega) N h1 h2, Option.bind_some]
  by_cases hV : 0 ≤ N ∧ OkX l N.toNat
  · rw [decide_eq_true hV, if_pos rfl]
    by_cases c1 : c < 0
    · rw [if_pos c1, if_pos (by omega), bits_Take.j0, if_pos rfl]
    rw [if_neg c1]
    by_cases c2 : c > 64
    · rw [if_pos c2, if_pos (by omega), bits_Take.j0, if_pos rfl]
    rw [if_neg c2]
    by_cases c3 : p < 0
    · rw [if_pos c3, if_pos (by omega), bits_Take.j0, if_pos rfl]
    rw [if_neg c3]
    by_cases c4 : p > N
    · rw [decide_eq_true c4, if_pos (by omega), bits_Take.j0, if_pos rfl]
    rw [decide_eq_false c4, bits_Take.j0, if_neg (by decide)]
    have hle := hV.2.le
    have hnb : ¬ (¬ (0 ≤ N ∧ OkX l N.toNat) ∨ c < 0 ∨ 64 < c ∨ p < 0 ∨ N < p) := by intro h; rcases h with h | h | h | h | h; exact h hV; all_goals omega
    rw [if_neg hnb, show wrap64 (N - p) = N - p from w64 (by omega) (by omega)]
    by_cases c5 : N - p < c
    · rw [if_pos c5, if_pos c5]
    rw [if_neg c5, if_neg c5]
    obtain ⟨q, rfl⟩ := Int.eq_ofNat_of_zero_le (by omega : 0 ≤ p)
    obtain ⟨d, rfl⟩ := Int.eq_ofNat_of_zero_le (by omega : 0 ≤ c)
    rw [Int.toNat_natCast, Int.toNat_natCast]
    have := btake_loop hl hlen N d q k 0 (by omega) (by omega) (by omega) (by rw [Nat.zero_mul, Nat.zero_add]; exact num_lt64 _ (by simp; omega))
    rw [Nat.zero_mul, Nat.zero_add] at this
    exact this
  · rw [decide_eq_false hV, if_neg (by decide), if_pos (.inl hV), bits_Take.j0, if_pos rfl]
end Go.Proofs.YtbgmnmjokdfmlaaDoor.PA
namespace Go.Proofs.YtbgmnmjokdfmlaaDoor.PA
set_option linter.unusedVariables false
set_option linter.unusedSimpArgs false
attribute [local instance 10] Classical.propDecidable
open Go.RowKit Go.Proofs.YtbgmnmjokdfmlaaDoor.G Go.Proofs.YtbgmnmjokdfmlaaDoorW.PrintWords Go.Proofs.YtbgmnmjokdfmlaaDoorW.PrintLast Go.Proofs.YtbgmnmjokdfmlaaDoorW.PrintMore
theorem class_ge (n : Int) (k : Nat) (hk : 8 ≤ k) : bits_class.f k n = some (classN n) := by
  obtain ⟨m, rfl⟩ : ∃ m, k = 8 + m := ⟨k - 8, by omega⟩
  clear hk
  induction m with
  | zero => exact class_eq n
  | succ m ih => exact bits_class.mono n (8 + m) _ ih
theorem u64_of_int (v : Int) : ∃ u : Nat, IntKind.u64.wrap v = (u : Int) ∧ u < 18446744073709551616 := by
  refine ⟨(v % 18446744073709551616).toNat, ?_, by omega⟩
  simp only [IntKind.wrap, IntKind.bits, IntKind.signed]
  simp
  omega
def intBits (v : Int) : List Bool := low (2 ^ (classN v).toNat - 1) (classN v).toNat ++ (if classN v < 4 then [false] else []) ++ low (IntKind.u64.wrap v).toNat (widthN (classN v)).toNat
theorem width_le (k : Int) : 0 ≤ widthN k ∧ widthN k ≤ 64 := by
  unfold widthN
  repeat' split
  all_goals omega
theorem mask_k (k : Nat) (hk : k ≤ 4) : IntKind.u64.wrap (shl .u64 1 (k : Int) - 1) = ((2 ^ k - 1 : Nat) : Int) := shl1 k (by omega)
theorem putInt_ok {l : List Int} {n : Nat} (h : OkX l n) (hlen : l.length ≤ 900000000) (v : Int) :
    ∃ (l' : List Int) (m : Nat), bits_PutInt.f l (n : Int) v = some (l', (m : Int), 0) ∧ m = n + (intBits v).length ∧ OkX l' m ∧ Bs l' m = Bs l n ++ intBits v := by
  have hle := h.le
  have hcr := classN_range v
  have hwr := width_le (classN v)
  obtain ⟨u, hu, hu64⟩ := u64_of_int v
  obtain ⟨k, hk⟩ := Int.eq_ofNat_of_zero_le hcr.1
  obtain ⟨wd, hwd⟩ := Int.eq_ofNat_of_zero_le hwr.1
  unfold bits_PutInt.f intBits
  rw [if_pos hlen, can_eq h.bytes (by omega) n (by omega) (by omega), Int.toNat_natCast, decide_eq_true ⟨by omega, h⟩, Option.bind_some, if_pos rfl, hwd, hk, hu, mask_k k (by omega), Int.toNat_natCast, Int.toNat_natCast, Int.toNat_natCast]
  have hk4 : k ≤ 4 := by omega
  have h2k : 2 ^ k - 1 < 18446744073709551616 := Nat.lt_of_le_of_lt (Nat.sub_le _ _) (Nat.lt_of_le_of_lt (Nat.pow_le_pow_right (n := 2) (by decide) hk4) (by decide))
  obtain ⟨l1, a1, b1, c1⟩ := add_ok (2 ^ k - 1) h2k k 70 n l h (by omega) (by omega) (by omega)
  unfold bits_add.f
  rw [a1, Option.bind_some]
  have hl1 := b1.near
  by_cases h4 : (k : Int) < 4
  · rw [if_pos h4, if_pos h4]
    obtain ⟨l2, a2, b2, c2⟩ := add_ok 0 (by decide) 1 70 (n + k) l1 b1 (by omega) (by omega) (by omega)
    rw [show ((0 : Nat) : Int) = 0 from rfl, show ((1 : Nat) : Int) = 1 from rfl] at a2
    rw [a2, Option.bind_some]
    have hl2 := b2.near
    obtain ⟨l3, a3, b3, c3⟩ := add_ok u hu64 wd 70 (n + k + 1) l2 b2 (by omega) (by omega) (by omega)
    rw [a3]
    refine ⟨l3, n + k + 1 + wd, rfl, by simp; omega, b3, ?_⟩
    rw [c3, c2, c1]
    simp [low]
  · rw [if_neg h4, if_neg h4, Option.bind_some]
    obtain ⟨l3, a3, b3, c3⟩ := add_ok u hu64 wd 70 (n + k) l1 b1 (by omega) (by omega) (by omega)
    rw [a3]
    refine ⟨l3, n + k + wd, rfl, by simp; omega, b3, ?_⟩
    rw [c3, c1]
    simp
theorem ones_eq (k : Nat) (h : k ≤ 4) : low (2 ^ k - 1) k = List.replicate k true := by
  have : k = 0 ∨ k = 1 ∨ k = 2 ∨ k = 3 ∨ k = 4 := by omega
  rcases this with h | h | h | h | h <;> subst h <;> decide
def sgn (x w : Nat) : Int := if 0 < w ∧ 2 ^ (w - 1) ≤ x then (x : Int) - 2 ^ w else (x : Int)
def tailI (l : List Int) (n p : Nat) (k : Int) : Int × Int × Int :=
  if (n : Int) - p < widthN k then (0, 0, 3) else if classN (sgn (num (win l p (widthN k).toNat)) (widthN k).toNat) = k then (sgn (num (win l p (widthN k).toNat)) (widthN k).toNat, ((p + (widthN k).toNat : Nat) : Int), 0) else (0, 0, 5)
def headI (l : List Int) (n : Nat) : Nat → Nat → Int × Int × Int
  | 0, p => tailI l n p 4
  | m + 1, p => if n ≤ p then (0, 0, 3) else if bit l p = true then headI l n m (p + 1) else tailI l n (p + 1) (3 - m)
theorem sgn_class {x w : Nat} (hw : w = 0 ∨ w = 7 ∨ w = 12 ∨ w = 32 ∨ w = 64) (hx : x < 2 ^ w) (h0 : 0 < w) :
    shr .i64 (wrap64 (shl .u64 (x : Int) (wrap64 (64 - (w : Int))))) (wrap64 (64 - (w : Int))) = sgn x w := by
  rcases hw with h | h | h | h | h <;> subst h
  · cases h0
  all_goals
    unfold sgn shr shl
    simp only [IntKind.bits]
  · rw [show wrap64 (64 - ((7 : Nat) : Int)) = 57 by decide +kernel, show (min (57 : Int).toNat 64) = 57 from rfl, show ((2 : Int) ^ 57) = 144115188075855872 by decide]
    simp only [IntKind.wrap, IntKind.bits, IntKind.signed, wrap64]
    simp at hx ⊢
    split <;> omega
  · rw [show wrap64 (64 - ((12 : Nat) : Int)) = 52 by decide +kernel, show (min (52 : Int).toNat 64) = 52 from rfl, show ((2 : Int) ^ 52) = 4503599627370496 by decide]
    simp only [IntKind.wrap, IntKind.bits, IntKind.signed, wrap64]
    simp at hx ⊢
    split <;> omega
  · rw [show wrap64 (64 - ((32 : Nat) : Int)) = 32 by decide +kernel, show (min (32 : Int).toNat 64) = 32 from rfl, show ((2 : Int) ^ 32) = 4294967296 by decide]
    simp only [IntKind.wrap, IntKind.bits, IntKind.signed, wrap64]
    simp at hx ⊢
    split <;> omega
  · rw [show wrap64 (64 - ((64 : Nat) : Int)) = 0 by decide +kernel, show (min (0 : Int).toNat 64) = 0 from rfl, show ((2 : Int) ^ 0) = 1 by decide]
    simp only [IntKind.wrap, IntKind.bits, IntKind.signed, wrap64]
    simp at hx ⊢
    split <;> omega
theorem win_one (l : List Int) (p : Nat) : win l p 1 = [bit l p] := by simp [win]
theorem widths (c : Int) : (widthN c).toNat = 0 ∨ (widthN c).toNat = 7 ∨ (widthN c).toNat = 12 ∨ (widthN c).toNat = 32 ∨ (widthN c).toNat = 64 := by
  unfold widthN
  repeat' split
  all_goals simp
theorem btakeN {l : List Int} {n : Nat} (h : OkX l n) (hlen : l.length ≤ 1000000) (p c : Nat) (hp : p ≤ n) (hc : c ≤ 64) (k : Nat) (hk : 70 < k) :
    bits_Take.f k l (n : Int) (p : Int) (c : Int) = some (if n - p < c then (0, 3) else (((num (win l p c) : Nat) : Int), 0)) := by
  have hle := h.le
  rw [btake_eq h.bytes (by omega) n p c (by omega) (by omega) k hk]
  unfold takeR
  have hnb : ¬ (¬ (0 ≤ (n : Int) ∧ OkX l (n : Int).toNat) ∨ (c : Int) < 0 ∨ 64 < (c : Int) ∨ (p : Int) < 0 ∨ (n : Int) < p) := by
    rw [Int.toNat_natCast]
    intro h'
    rcases h' with h' | h' | h' | h' | h'
    · exact h' ⟨by omega, h⟩
    all_goals omega
  rw [if_neg hnb, Int.toNat_natCast, Int.toNat_natCast]
  by_cases c1 : n - p < c
  · rw [if_pos c1, if_pos (by omega)]
  · rw [if_neg c1, if_neg (by omega)]
theorem num_lt_w (l : List Int) (p w : Nat) : num (win l p w) < 2 ^ w := by
  have := num_lt (win l p w)
  rwa [win_length] at this
theorem tail_eq {l : List Int} {n : Nat} (h : OkX l n) (hlen : l.length ≤ 1000000) (p : Nat) (hp : p ≤ n) (c : Int) (k : Nat) (hk : 80 < k) : bits_TakeInt.j2 k (p : Int) c l (n : Int) = some (tailI l n p c) := by
  obtain ⟨k, rfl⟩ : ∃ k', k = k' + 1 := ⟨k - 1, by omega⟩
  have hle := h.le
  have hwr := width_le c
  have hws := widths c
  rw [bits_TakeInt.j2, width_eq, Option.bind_some]
  unfold tailI
  obtain ⟨w, hw⟩ := Int.eq_ofNat_of_zero_le hwr.1
  rw [hw] at hws ⊢
  rw [Int.toNat_natCast] at hws ⊢
  rw [btakeN h hlen p w hp (by omega) k (by omega), Option.bind_some]
  have hx := num_lt_w l p w
  by_cases c1 : n - p < w
  · rw [if_pos c1, if_neg (by decide), if_pos (show (n : Int) - p < w by omega)]
  · rw [if_neg c1]
    simp only [if_true]
    rw [if_neg (show ¬ (n : Int) - p < w by omega)]
    have hpw : wrap64 ((p : Int) + (w : Int)) = ((p + w : Nat) : Int) := w64add (by omega)
    rw [hpw]
    clear hpw
    by_cases c2 : (w : Int) > 0
    · rw [if_pos c2, sgn_class hws hx (by omega), class_ge _ k (by omega), Option.bind_some]
      rw [if_pos (by rcases hws with h | h | h | h | h <;> rw [h] <;> decide +kernel)]
      by_cases c3 : classN (sgn (num (win l p w)) w) = c
      · rw [if_pos c3, if_pos c3]
      · rw [if_neg c3, if_neg c3]
    · rw [if_neg c2]
      have : w = 0 := by omega
      subst this
      rw [show num (win l p 0) = 0 from rfl, show wrap64 ((0 : Nat) : Int) = 0 by decide +kernel, class_ge _ k (by omega), Option.bind_some, show sgn 0 0 = 0 by decide]
      by_cases c3 : classN 0 = c
      · rw [if_pos c3, if_pos c3]
      · rw [if_neg c3, if_neg c3]
theorem head_eq {l : List Int} {n : Nat} (h : OkX l n) (hlen : l.length ≤ 1000000) : ∀ (m p k : Nat), p ≤ n → m ≤ 4 → 90 + m < k → bits_TakeInt.l0 k (p : Int) (4 - (m : Int)) l (n : Int) = some (headI l n m p) := by
  intro m
  induction m with
  | zero =>
    intro p k hp hm hk
    obtain ⟨k, rfl⟩ : ∃ k', k = k' + 1 := ⟨k - 1, by omega⟩
    rw [bits_TakeInt.l0, if_neg (by omega), headI, show (4 - ((0 : Nat) : Int)) = 4 from rfl]
    exact tail_eq h hlen p hp 4 k (by omega)
  | succ m ih =>
    intro p k hp hm hk
    obtain ⟨k, rfl⟩ : ∃ k', k = k' + 1 := ⟨k - 1, by omega⟩
    have hle := h.le
    rw [bits_TakeInt.l0, if_pos (by omega), headI]
    have ht := btakeN h hlen p 1 hp (by decide) k (by omega)
    rw [show ((1 : Nat) : Int) = 1 from rfl] at ht
    rw [ht, Option.bind_some]
    by_cases c1 : n ≤ p
    · rw [if_pos (show n - p < 1 by omega), if_pos c1]
      rfl
    · rw [if_neg (show ¬ n - p < 1 by omega), if_neg c1]
      simp only [if_true]
      have e1 : wrap64 ((p : Int) + 1) = ((p + 1 : Nat) : Int) := w64add (b := 1) (by omega)
      have e2 : wrap64 (4 - ((m + 1 : Nat) : Int) + 1) = 4 - (m : Int) := by rw [show (4 - ((m + 1 : Nat) : Int) + 1) = 4 - (m : Int) by omega]; exact w64 (by omega) (by omega)
      rw [e1, e2, win_one]
      clear e1 e2
      cases hb : bit l p
      · rw [show num [false] = 0 from rfl, if_pos (by rfl), if_neg (by decide), show (4 - ((m + 1 : Nat) : Int)) = 3 - (m : Int) by omega]
        exact tail_eq h hlen (p + 1) (by omega) _ k (by omega)
      · rw [show num [true] = 1 from rfl, if_neg (by decide), if_pos rfl]
        exact ih (p + 1) k (by omega) (by omega) (by omega)
noncomputable def takeI (l : List Int) (N p : Int) : Int × Int × Int := if ¬ (0 ≤ N ∧ OkX l N.toNat) ∨ p < 0 ∨ N < p then (0, 0, 1) else headI l N.toNat 4 p.toNat
theorem takeInt_eq {l : List Int} (hl : OkL l) (hlen : l.length ≤ 1000000) (N p : Int) (h1 : -9223372036854775808 ≤ N) (h2 : N ≤ 9223372036854775807) (k : Nat) (hk : 100 < k) : bits_TakeInt.f k l N p = some (takeI l N p) := by
  unfold bits_TakeInt.f takeI
  obtain ⟨k, rfl⟩ : ∃ k', k = k' + 1 := ⟨k - 1, by omega⟩
  rw [can_eq hl (by omega) N h1 h2, Option.bind_some]
  by_cases hV : 0 ≤ N ∧ OkX l N.toNat
  · rw [decide_eq_true hV, if_pos rfl]
    by_cases c3 : p < 0
    · rw [if_pos c3, if_pos (.inr (.inl c3)), bits_TakeInt.j0, if_pos rfl]
    rw [if_neg c3]
    by_cases c4 : p > N
    · rw [decide_eq_true c4, if_pos (.inr (.inr c4)), bits_TakeInt.j0, if_pos rfl]
    have hnb : ¬ (¬ (0 ≤ N ∧ OkX l N.toNat) ∨ p < 0 ∨ N < p) := by intro h; rcases h with h | h | h; exact h hV; all_goals omega
    rw [if_neg hnb, decide_eq_false c4, bits_TakeInt.j0, if_neg (by decide)]
    obtain ⟨q, rfl⟩ := Int.eq_ofNat_of_zero_le (by omega : 0 ≤ p)
    obtain ⟨n, rfl⟩ := Int.eq_ofNat_of_zero_le hV.1
    rw [Int.toNat_natCast] at hV ⊢
    rw [Int.toNat_natCast]
    exact head_eq hV.2 hlen 4 q k (by omega) (by omega) (by omega)
  · rw [decide_eq_false hV, if_neg (by decide), if_pos (.inl hV), bits_TakeInt.j0, if_pos rfl]
theorem win_part {l : List Int} {m q c : Nat} {X Y Z : List Bool} (h : Bs l m = X ++ Y ++ Z) (hX : X.length = q) (hY : Y.length = c) : win l q c = Y := by
  have hm : m = X.length + Y.length + Z.length := by have := congrArg List.length h; simp at this; omega
  rw [win_Bs l m q c (by omega), h, List.append_assoc]
  subst hX hY
  rw [List.take_append, List.take_of_length_le (by omega), List.drop_append_of_le_length (by omega), List.drop_length, List.nil_append, Nat.add_sub_cancel_left, List.take_append_of_le_length (Nat.le_refl _), List.take_length]
theorem bit_part {l : List Int} {m q : Nat} {b : Bool} {X Z : List Bool} (h : Bs l m = X ++ [b] ++ Z) (hX : X.length = q) : bit l q = b := by
  have := win_part h hX (show [b].length = 1 from rfl)
  rw [win_one] at this
  simpa using this
theorem head_ones {l : List Int} {n : Nat} : ∀ (j m p : Nat), j ≤ m → (∀ i, i < j → p + i < n ∧ bit l (p + i) = true) → headI l n m p = headI l n (m - j) (p + j) := by
  intro j
  induction j with
  | zero => intro m p h1 h2; rfl
  | succ j ih =>
    intro m p h1 h2
    obtain ⟨m, rfl⟩ : ∃ m', m = m' + 1 := ⟨m - 1, by omega⟩
    have h0 := h2 0 (by omega)
    rw [Nat.add_zero] at h0
    rw [headI, if_neg (by omega), if_pos h0.2, ih m (p + 1) (by omega) (fun i hi => by have := h2 (i + 1) (by omega); rwa [show p + (i + 1) = p + 1 + i by omega] at this)]
    rw [show m + 1 - (j + 1) = m - j by omega, show p + (j + 1) = p + 1 + j by omega]
theorem sgn_back (v : Int) (hv : (Lit.int .i64 v).wf = true) (u : Nat) (hu : IntKind.u64.wrap v = (u : Int)) : sgn (u % 2 ^ (widthN (classN v)).toNat) (widthN (classN v)).toNat = v := by
  have b := i64_bd hv
  have hu' : (u : Int) = v % 18446744073709551616 := by rw [← hu]; simp [IntKind.wrap, IntKind.bits, IntKind.signed]
  clear hu hv
  unfold sgn
  by_cases a1 : v = 0
  · rw [show classN v = 0 by unfold classN; rw [if_pos a1]]
    simp [widthN]
    omega
  by_cases a2 : -64 ≤ v ∧ v < 64
  · rw [show classN v = 1 by unfold classN; rw [if_neg a1, if_pos a2], show (widthN 1).toNat = 7 from rfl]
    simp
    split <;> omega
  by_cases a3 : -2048 ≤ v ∧ v < 2048
  · rw [show classN v = 2 by unfold classN; rw [if_neg a1, if_neg a2, if_pos a3], show (widthN 2).toNat = 12 from rfl]
    simp
    split <;> omega
  by_cases a4 : -2147483648 ≤ v ∧ v < 2147483648
  · rw [show classN v = 3 by unfold classN; rw [if_neg a1, if_neg a2, if_neg a3, if_pos a4], show (widthN 3).toNat = 32 from rfl]
    simp
    split <;> omega
  · rw [show classN v = 4 by unfold classN; rw [if_neg a1, if_neg a2, if_neg a3, if_neg a4], show (widthN 4).toNat = 64 from rfl]
    simp
    split <;> omega
theorem head_back {l : List Int} {m : Nat} {B : List Bool} (v : Int) (hv : (Lit.int .i64 v).wf = true) (h : Bs l m = B ++ intBits v) : headI l m 4 B.length = (v, (m : Int), 0) := by
  have hcr := classN_range v
  have hwr := width_le (classN v)
  obtain ⟨u, hu, hu64⟩ := u64_of_int v
  have hsg := sgn_back v hv u hu
  obtain ⟨k, hk⟩ := Int.eq_ofNat_of_zero_le hcr.1
  obtain ⟨wd, hwd⟩ := Int.eq_ofNat_of_zero_le hwr.1
  unfold intBits at h
  rw [hwd, hu, Int.toNat_natCast] at h
  rw [hwd, Int.toNat_natCast] at hsg
  rw [hk] at h hwd
  rw [Int.toNat_natCast] at h
  rw [Int.toNat_natCast] at h
  rw [ones_eq k (by omega)] at h
  have hlen : m = B.length + k + (if (k : Int) < 4 then 1 else 0) + wd := by
    have := congrArg List.length h
    simp at this
    rw [this]
    split <;> simp <;> omega
  have hones : ∀ i, i < k → B.length + i < m ∧ bit l (B.length + i) = true := by
    intro i hi
    refine ⟨by omega, ?_⟩
    have e : List.replicate k true = List.replicate i true ++ [true] ++ List.replicate (k - i - 1) true := by
      rw [show [true] = List.replicate 1 true from rfl, List.replicate_append_replicate, List.replicate_append_replicate]
      congr 1
      omega
    exact bit_part (X := B ++ List.replicate i true) (Z := List.replicate (k - i - 1) true ++ (if (k : Int) < 4 then [false] else []) ++ low u wd) (by rw [h, e]; simp) (by simp)
  rw [head_ones k 4 B.length (by omega) hones]
  have tl : ∀ (X : List Bool), Bs l m = X ++ low u wd → tailI l m X.length (k : Int) = (v, (m : Int), 0) := by
    intro X hX
    have hm : m = X.length + wd := by have := congrArg List.length hX; simpa using this
    unfold tailI
    have hw1 : win l X.length wd = low u wd := win_part (X := X) (Y := low u wd) (Z := []) (by rw [hX]; simp) rfl (by simp)
    rw [hwd, Int.toNat_natCast, if_neg (by omega), hw1, num_low, hsg, if_pos hk, ← hm]
  by_cases h4 : (k : Int) < 4
  · rw [if_pos h4] at h hlen
    obtain ⟨j, hj⟩ : ∃ j, 4 - k = j + 1 := ⟨3 - k, by omega⟩
    have hb : bit l (B.length + k) = false := bit_part (X := B ++ List.replicate k true) (Z := low u wd) (by rw [h]; simp) (by simp)
    rw [hj, headI, if_neg (by omega), hb, if_neg (by decide)]
    have := tl (B ++ List.replicate k true ++ [false]) (by rw [h]; simp)
    rw [show (B ++ List.replicate k true ++ [false]).length = B.length + k + 1 by simp; omega] at this
    rw [show (3 - (j : Int)) = (k : Int) by omega]
    exact this
  · rw [if_neg h4] at h hlen
    have hk4 : k = 4 := by omega
    subst hk4
    rw [show 4 - 4 = 0 from rfl, headI]
    have := tl (B ++ List.replicate 4 true) (by rw [h]; simp)
    rw [show (B ++ List.replicate 4 true).length = B.length + 4 by simp] at this
    exact this
theorem put_ok {l : List Int} {n : Nat} (h : OkX l n) (hlen : l.length ≤ 900000000) (v c : Nat) (hv : v < 18446744073709551616) (hc : c ≤ 64) :
    ∃ (l' : List Int), bits_Put.f l (n : Int) (v : Int) (c : Int) = some (l', ((n + c : Nat) : Int), 0) ∧ OkX l' (n + c) ∧ Bs l' (n + c) = Bs l n ++ low v c := by
  have hle := h.le
  obtain ⟨l', a, b, d⟩ := add_ok v hv c 70 n l h hc (by omega) (by omega)
  refine ⟨l', ?_, b, d⟩
  unfold bits_Put.f bits_add.f
  rw [if_pos hlen, can_eq h.bytes (by omega) n (by omega) (by omega), Int.toNat_natCast, decide_eq_true ⟨by omega, h⟩, Option.bind_some, if_pos rfl, if_neg (by omega), if_neg (by omega), a]
  rfl
theorem wrap_u64 (n : Int) : IntKind.u64.wrap n = n % 18446744073709551616 := by simp [IntKind.wrap, IntKind.bits, IntKind.signed]
end Go.Proofs.YtbgmnmjokdfmlaaDoor.PA
namespace Go.Proofs.YtbgmnmjokdfmlaaDoor.PA
open Go.RowKit Go.Proofs.YtbgmnmjokdfmlaaDoor.G Go.Proofs.YtbgmnmjokdfmlaaDoorW.PrintWords Go.Proofs.YtbgmnmjokdfmlaaDoorW.PrintLast Go.Proofs.YtbgmnmjokdfmlaaDoorW.PrintMore
set_option linter.unusedVariables false
set_option linter.unusedSimpArgs false
def PK (W : World) (g : Nat) (L : List Bool) : Prop :=
  ∃ (A : Option Addr) (c : Nat) (l : List Int), W.heap[g]? = some (.cells #[.slice A l.length c, .int .i64 (L.length : Int)] 101 (0, 0)) ∧ Kd.R (Kd.int .u8) 5 W 0 (fun k => k ≠ g) (.slice A l.length c) l ∧ OkX l L.length ∧ Bs l L.length = L
theorem PK.keep {W W' : World} {g : Nat} {L : List Bool} (h : PK W g L) (hb : Below W.heap.size W W') : PK W' g L := by
  obtain ⟨A, c, l, h1, h2, h3, h4⟩ := h
  exact ⟨A, c, l, blk_below h1 hb, Kd.R_below h2 hb, h3, h4⟩
theorem pk_store {W0 W : World} {g n c : Nat} {A : Option Addr} {l' : List Int} {u v : Value} {L M : List Bool} (hb : W.heap[g]? = some (.cells #[u, v] 101 (0, 0))) (hr : Kd.R (Kd.int .u8) 5 W W0.heap.size (fun _ => True) (.slice A l'.length c) l') (hg : g < W0.heap.size)
    (ho : OkX l' (L.length + n)) (hbs : Bs l' (L.length + n) = L ++ M) : PK ((W.setCell ⟨g, 0, none⟩ (.slice A l'.length c)).setCell ⟨g, 1, none⟩ (.int .i64 ((L.length : Int) + (n : Int)))) g (L ++ M) := by
  have hlen : (L ++ M).length = L.length + n := by rw [← hbs]; simp
  refine ⟨A, c, l', ?_, ?_, by rw [hlen]; exact ho, by rw [hlen]; exact hbs⟩
  · rw [hlen]
    refine blk_put (cs := #[.slice A l'.length c, v]) ?_ 1 _ (by simp)
    exact blk_put hb 0 _ (by simp)
  · have h2 := Kd.R_lower (Kd.R_mono (ok' := fun k => k ≠ g) (Kd.R_bound hr) (fun k hk => by omega)) (Nat.zero_le _)
    exact Kd.R_far (p := ⟨g, 1, none⟩) (Kd.R_far (p := ⟨g, 0, none⟩) h2 (fun k hk => hk) _) (fun k hk => hk) _
set_option maxHeartbeats 1000000 in
set_option maxRecDepth 100000 in
theorem pack_put.calls (g : Nat) (L : List Bool) (v c : Nat) (w : World) (hP : PK w g L) (hv : v < 18446744073709551616) (hc : c ≤ 64) (hL : L.length ≤ 7000000) :
    Calls Tryd.prog 63 #[.pointer (some ⟨g, 0, none⟩), .int .u64 (v : Int), .int .i64 (c : Int)] w fun e w' => e = .returned (.tuple #[]) ∧ PK w' g (L ++ low v c) ∧ KeepBut w w' g none ∧ w'.os = w.os ∧ w'.tape = w.tape ∧ w'.output = w.output := by
  obtain ⟨A, cc, l, hblk, hR, hok, hbs⟩ := hP
  have hlen : l.length ≤ 900000000 := by have := hok.near; omega
  obtain ⟨l', hf, hok', hbs'⟩ := put_ok hok hlen v c hv hc
  have h0 : w.cell? ⟨g, 0, none⟩ = some (.slice A l.length cc) := (blk_cell hblk 0).trans rfl
  have h1 : w.cell? ⟨g, 1, none⟩ = some (.int .i64 (L.length : Int)) := (blk_cell hblk 1).trans rfl
  have HG := Aside0.mk (blk_lt hblk)
  have HBK := Aside0.mk hblk
  have HR := Aside0.mk (Kd.R_reads' hR)
  have HF := Aside0.mk hf
  have HO := Aside0.mk hok'
  have HBS := Aside0.mk (hbs'.trans (by rw [hbs]))
  clear hblk hR hok hbs hf hok' hbs' hlen hL hv hc
  go_enter Tryd.func63, Tryd.ntmps63
  go_wp2_with (go_at_call 93; (with_reducible refine (bits_Put.calls _ _ l _ _ _ l' _ 0 _ HR.out.2.2 HR.out.2.1 HF.out).mono ?_); rintro e w1 ⟨v1, rfl, hr1, hb⟩; obtain ⟨A1, c1, rfl⟩ := Kd.R_slice hr1; have HR1 := Aside0.mk hr1; have HB1 := Aside0.mk hb; have HBK1 := Aside0.mk (blk_below HBK.out hb); have g0 := (blk_cell HBK1.out 0).trans rfl; have g1 := (blk_cell HBK1.out 1).trans rfl; have f0 := blk_frozen HBK1.out 0; have f1 := blk_frozen HBK1.out 1; clear hr1 hb)
  refine bodyPost_end (results_none rfl _ _ _) rfl ?_
  exact ⟨rfl, pk_store HBK1.out HR1.out HG.out HO.out HBS.out, ((KeepBut.of_below HB1.out g none).set_ 0 _).set_ 1 _, HB1.out.os, HB1.out.tape, HB1.out.output⟩
set_option maxHeartbeats 1000000 in
set_option maxRecDepth 100000 in
theorem pack_number.calls (g : Nat) (L : List Bool) (v : Int) (w : World) (hP : PK w g L) (hL : L.length ≤ 7000000) :
    Calls Tryd.prog 64 #[.pointer (some ⟨g, 0, none⟩), .int .i64 v] w fun e w' => e = .returned (.tuple #[]) ∧ PK w' g (L ++ intBits v) ∧ KeepBut w w' g none ∧ w'.os = w.os ∧ w'.tape = w.tape ∧ w'.output = w.output := by
  obtain ⟨A, cc, l, hblk, hR, hok, hbs⟩ := hP
  have hlen : l.length ≤ 900000000 := by have := hok.near; omega
  obtain ⟨l', m, hf, hm, hok', hbs'⟩ := putInt_ok hok hlen v
  subst hm
  have h0 : w.cell? ⟨g, 0, none⟩ = some (.slice A l.length cc) := (blk_cell hblk 0).trans rfl
  have h1 : w.cell? ⟨g, 1, none⟩ = some (.int .i64 (L.length : Int)) := (blk_cell hblk 1).trans rfl
  have HG := Aside0.mk (blk_lt hblk)
  have HBK := Aside0.mk hblk
  have HR := Aside0.mk (Kd.R_reads' hR)
  have HF := Aside0.mk hf
  have HO := Aside0.mk hok'
  have HBS := Aside0.mk (hbs'.trans (by rw [hbs]))
  clear hblk hR hok hbs hf hok' hbs' hlen hL
  go_enter Tryd.func64, Tryd.ntmps64
  go_wp2_with (go_at_call 94; (with_reducible refine (bits_PutInt.calls _ _ l _ _ l' _ 0 _ HR.out.2.2 HR.out.2.1 HF.out).mono ?_); rintro e w1 ⟨v1, rfl, hr1, hb⟩; obtain ⟨A1, c1, rfl⟩ := Kd.R_slice hr1; have HR1 := Aside0.mk hr1; have HB1 := Aside0.mk hb; have HBK1 := Aside0.mk (blk_below HBK.out hb); have g0 := (blk_cell HBK1.out 0).trans rfl; have g1 := (blk_cell HBK1.out 1).trans rfl; have f0 := blk_frozen HBK1.out 0; have f1 := blk_frozen HBK1.out 1; clear hr1 hb)
  refine bodyPost_end (results_none rfl _ _ _) rfl ?_
  exact ⟨rfl, pk_store HBK1.out HR1.out HG.out HO.out HBS.out, ((KeepBut.of_below HB1.out g none).set_ 0 _).set_ 1 _, HB1.out.os, HB1.out.tape, HB1.out.output⟩
end Go.Proofs.YtbgmnmjokdfmlaaDoor.PA
namespace Go.Proofs.YtbgmnmjokdfmlaaDoor.PA
open Go.RowKit Go.Proofs.YtbgmnmjokdfmlaaDoor.G Go.Proofs.YtbgmnmjokdfmlaaDoorW.PrintWords Go.Proofs.YtbgmnmjokdfmlaaDoorW.PrintLast Go.Proofs.YtbgmnmjokdfmlaaDoorW.PrintMore
set_option linter.unusedVariables false
set_option linter.unusedSimpArgs false
structure TabZ (w : World) : Prop where mk :: (out : ∀ j, j < 64 → w.cell? ⟨0, j, none⟩ = some (.int .u8 (Lib.deBruijn64tab.getD j 0 : Nat)))
theorem TabZ.below {w w1 : World} (h : TabZ w) (hb : Below w.heap.size w w1) : TabZ w1 := ⟨fun j hj => pw_cell_below hb (h.out j hj)⟩
set_option maxHeartbeats 1000000 in
set_option maxRecDepth 100000 in
theorem tz_core (x k idx : Nat) (w : World) (hx0 : ((x : Int) == 0) = false)
    (key : IntKind.u64.wrap (bits BinOp.and IntKind.u64 (x : Int) (IntKind.u64.wrap (-(x : Int))) * 285870213051353865) / 288230376151711744 = (idx : Int))
    (hi : idx < 64) (hk : k < 64) (hcell : w.cell? ⟨0, idx, none⟩ = some (.int .u8 k)) :
    Calls Tryd.prog 96 #[.int .u64 x] w fun e w' => e = .returned (.int .i64 k) ∧ w' = w := by
  go_enter Tryd.func96, Tryd.ntmps96
  go_wp2_with (simp only [key])
  go_ret
  exact ⟨rfl, rfl⟩
set_option maxRecDepth 100000 in
theorem tz.calls (x : Nat) (hx : x < 18446744073709551616) (w : World) (hT : TabZ w) :
    Calls Tryd.prog 96 #[.int .u64 x] w fun e w' => e = .returned (.int .i64 (Lib.ctz 64 x : Nat)) ∧ w' = w := by
  by_cases hx0 : x = 0
  · subst hx0
    go_enter Tryd.func96, Tryd.ntmps96
    go_wp2
    go_ret
    exact ⟨rfl, rfl⟩
  · obtain ⟨hlow, hk⟩ := Lib.lowest_bit 64 x hx0 hx
    obtain ⟨hi, htab⟩ := Lib.deBruijn64_at _ hk
    have hcell := hT.out _ hi
    rw [htab] at hcell
    exact tz_core x _ _ w (by simp; omega) (tz64_key x _ hx hx0 hlow) hi hk hcell
end Go.Proofs.YtbgmnmjokdfmlaaDoor.PA
namespace Go.Proofs.YtbgmnmjokdfmlaaDoor.PA
open Go.RowKit Go.Proofs.YtbgmnmjokdfmlaaDoor.G Go.Proofs.YtbgmnmjokdfmlaaDoorW.PrintWords Go.Proofs.YtbgmnmjokdfmlaaDoorW.PrintLast Go.Proofs.YtbgmnmjokdfmlaaDoorW.PrintMore
set_option linter.unusedVariables false
set_option linter.unusedSimpArgs false
theorem tab8_fin : ∀ n : Fin 256, (Lib.len8tab.data.getD n.val 0).toNat = Lib.bitLen n.val := by decide +kernel
theorem ba_get (s : ByteArray) (n : Nat) (h : n < s.size) : s[n]'h = s.data.getD n 0 := by
  have h' : n < s.data.size := h
  rw [Array.getD_eq_getD_getElem?, Array.getElem?_eq_getElem h']
  rfl
theorem tab8 (n : Nat) (h : n < Lib.len8tab.size) : ((Lib.len8tab[n]'h).toNat : Int) = (Lib.bitLen n : Int) := by
  have hs : Lib.len8tab.size = 256 := by decide +kernel
  have := tab8_fin ⟨n, by omega⟩
  rw [ba_get, ← this]
set_option maxHeartbeats 4000000 in
set_option maxRecDepth 100000 in
theorem len64.calls (x : Int) (w : World) (h0 : 0 ≤ x) (h1 : x ≤ 18446744073709551615) :
    Calls Tryd.prog 118 #[.int .u64 x] w fun e w' => e = .returned (.int .i64 (Lib.bitLen x.toNat)) ∧ w' = w := by
  have hsz : Lib.len8tab.size = 256 := by decide +kernel
  go_enter Tryd.func118, Tryd.ntmps118
  go_wp2
  all_goals (go_ret; refine ⟨congrArg Ending.returned (congrArg (Value.int IntKind.i64) ?_), rfl⟩)
  all_goals simp only [tab8]
  all_goals clear hsz
  all_goals first
    | (have e : (x / 4294967296 / 65536 / 256).toNat = x.toNat / 72057594037927936 := by omega
       rw [e]
       have l := Lib.bitLen_le (x.toNat / 72057594037927936) 8 (by decide) (by omega)
       have s := Lib.bitLen_shift56 x.toNat (by omega) (by omega)
       have q : ((Lib.bitLen (x.toNat / 72057594037927936) : Nat) : Int) ≤ 8 := by omega
       rw [w64 (x := ((Lib.bitLen (x.toNat / 72057594037927936) : Nat) : Int)) (by omega) (by omega), w64 (by omega) (by omega)]
       omega)
    | (have e : (x / 4294967296 / 65536).toNat = x.toNat / 281474976710656 := by omega
       rw [e]
       have l := Lib.bitLen_le (x.toNat / 281474976710656) 8 (by decide) (by omega)
       have s := Lib.bitLen_shift48 x.toNat (by omega) (by omega)
       have q : ((Lib.bitLen (x.toNat / 281474976710656) : Nat) : Int) ≤ 8 := by omega
       rw [w64 (x := ((Lib.bitLen (x.toNat / 281474976710656) : Nat) : Int)) (by omega) (by omega), w64 (by omega) (by omega)]
       omega)
    | (have e : (x / 4294967296 / 256).toNat = x.toNat / 1099511627776 := by omega
       rw [e]
       have l := Lib.bitLen_le (x.toNat / 1099511627776) 8 (by decide) (by omega)
       have s := Lib.bitLen_shift40 x.toNat (by omega) (by omega)
       have q : ((Lib.bitLen (x.toNat / 1099511627776) : Nat) : Int) ≤ 8 := by omega
       rw [w64 (x := ((Lib.bitLen (x.toNat / 1099511627776) : Nat) : Int)) (by omega) (by omega), w64 (by omega) (by omega)]
       omega)
    | (have e : (x / 4294967296).toNat = x.toNat / 4294967296 := by omega
       rw [e]
       have l := Lib.bitLen_le (x.toNat / 4294967296) 8 (by decide) (by omega)
       have s := Lib.bitLen_shift32 x.toNat (by omega) (by omega)
       have q : ((Lib.bitLen (x.toNat / 4294967296) : Nat) : Int) ≤ 8 := by omega
       rw [w64 (x := ((Lib.bitLen (x.toNat / 4294967296) : Nat) : Int)) (by omega) (by omega), w64 (by omega) (by omega)]
       omega)
    | (have e : (x / 65536 / 256).toNat = x.toNat / 16777216 := by omega
       rw [e]
       have l := Lib.bitLen_le (x.toNat / 16777216) 8 (by decide) (by omega)
       have s := Lib.bitLen_shift24 x.toNat (by omega) (by omega)
       have q : ((Lib.bitLen (x.toNat / 16777216) : Nat) : Int) ≤ 8 := by omega
       rw [w64 (x := ((Lib.bitLen (x.toNat / 16777216) : Nat) : Int)) (by omega) (by omega), w64 (by omega) (by omega)]
       omega)
    | (have e : (x / 65536).toNat = x.toNat / 65536 := by omega
       rw [e]
       have l := Lib.bitLen_le (x.toNat / 65536) 8 (by decide) (by omega)
       have s := Lib.bitLen_shift16 x.toNat (by omega) (by omega)
       have q : ((Lib.bitLen (x.toNat / 65536) : Nat) : Int) ≤ 8 := by omega
       rw [w64 (x := ((Lib.bitLen (x.toNat / 65536) : Nat) : Int)) (by omega) (by omega), w64 (by omega) (by omega)]
       omega)
    | (have e : (x / 256).toNat = x.toNat / 256 := by omega
       rw [e]
       have l := Lib.bitLen_le (x.toNat / 256) 8 (by decide) (by omega)
       have s := Lib.bitLen_shift8 x.toNat (by omega) (by omega)
       have q : ((Lib.bitLen (x.toNat / 256) : Nat) : Int) ≤ 8 := by omega
       rw [w64 (x := ((Lib.bitLen (x.toNat / 256) : Nat) : Int)) (by omega) (by omega), w64 (by omega) (by omega)]
       omega)
    | (have e : (x).toNat = x.toNat := by omega
       rw [e]
       have l := Lib.bitLen_le (x.toNat) 8 (by decide) (by omega)
       have q : ((Lib.bitLen (x.toNat) : Nat) : Int) ≤ 8 := by omega
       rw [w64 (x := ((Lib.bitLen (x.toNat) : Nat) : Int)) (by omega) (by omega), w64 (by omega) (by omega)]
       (try omega))
theorem lz.calls (x : Nat) (w : World) (h1 : x < 18446744073709551616) :
    Calls Tryd.prog 95 #[.int .u64 x] w fun e w' => e = .returned (.int .i64 ((64 - Lib.bitLen x : Nat) : Int)) ∧ w' = w := by
  have l : Lib.bitLen x ≤ 64 := Lib.bitLen_le x 64 (by omega) (by omega)
  have e : ((64 - Lib.bitLen x : Nat) : Int) = 64 - (Lib.bitLen x : Int) := by omega
  rw [e]
  go_enter Tryd.func95, Tryd.ntmps95
  go_wp2_with (go_at_call 118; refine (len64.calls (x : Int) _ (by omega) (by omega)).mono ?_; rintro e w' ⟨rfl, rfl⟩; rw [Int.toNat_natCast])
  go_ret
  exact ⟨rfl, rfl⟩
end Go.Proofs.YtbgmnmjokdfmlaaDoor.PA

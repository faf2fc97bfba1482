-- written by wip/gprint.py of this session (it runs the print of the guide's kit over contracts of the session)
import Derived.Test.YthjfffgddegmoaaPA0
namespace Go.Proofs.Ythjfffgddegmoaa.PA
open Go.RowKit Go.Proofs.YthjfffgddegmoaaW.PrintWords Go.Proofs.YthjfffgddegmoaaW.PrintLast Go.Proofs.YthjfffgddegmoaaW.PrintMore
attribute [local go_sem] max2_int min2_int max_two min_two max_three min_three max_four min_four   -- for this text's walks alone
set_option linter.unusedVariables false
set_option linter.unusedSimpArgs false

/-! ### plan_Floor: function 10 -/
def plan_Floor.f (a0 : Int) (a1 : Int) (a2 : Int) : Option (Int) := if a2 ≤ 0 then (some a0) else (if a1 = (-9223372036854775808) then (some a0) else (if a1 < (wrap64 ((-9223372036854775808) + a2)) then (some a0) else (some (mx a0 (wrap64 (a1 - a2))))))
set_option maxHeartbeats 8000000 in
set_option maxRecDepth 100000 in
theorem plan_Floor.calls (a0 : Int) (a1 : Int) (a2 : Int) (r : Int) (w : World) (h : plan_Floor.f a0 a1 a2 = some r) :
    Calls Try.prog 10 #[.int .i64 a0, .int .i64 a1, .int .i64 a2] w fun e w' => e = .returned (.int .i64 r) ∧ Below w.heap.size w w' := by
  have HB := Aside0.mk (Below.refl w.heap.size w)
  have H : (if a2 ≤ 0 then (some a0) else (if a1 = (-9223372036854775808) then (some a0) else (if a1 < (wrap64 ((-9223372036854775808) + a2)) then (some a0) else (some (mx a0 (wrap64 (a1 - a2))))))) = some r := h
  clear h
  by_cases c4 : a2 ≤ 0
  · rw [if_pos c4] at H
    have c4b0 : decide (a2 ≤ 0) = true := decide_eq_true c4
    clear c4
    obtain rfl := Option.some.inj H
    go_enter Try.func10, Try.ntmps10
    go_wp2
    go_ret
    exact ⟨by first | rfl | (simp [errW_none, errW_some] <;> rfl) | (simp [*, errW_none, errW_some] <;> rfl), by repeat (first | (with_reducible first | exact HB.out | apply below_alloc | apply pw_below_drewN | apply below_drew1) | exact HB.out)⟩
  · rw [if_neg c4] at H
    have c4b0 : decide (a2 ≤ 0) = false := decide_eq_false c4
    clear c4
    by_cases c5 : a1 = (-9223372036854775808)
    · rw [if_pos c5] at H
      have c5b0 : (a1 == (-9223372036854775808)) = true := beq_iff_eq.mpr c5
      have c5b1 : (a1 != (-9223372036854775808)) = false := bne_eq_false_iff_eq.mpr c5
      clear c5
      obtain rfl := Option.some.inj H
      go_enter Try.func10, Try.ntmps10
      go_wp2
      go_ret
      exact ⟨by first | rfl | (simp [errW_none, errW_some] <;> rfl) | (simp [*, errW_none, errW_some] <;> rfl), by repeat (first | (with_reducible first | exact HB.out | apply below_alloc | apply pw_below_drewN | apply below_drew1) | exact HB.out)⟩
    · rw [if_neg c5] at H
      have c5b0 : (a1 == (-9223372036854775808)) = false := beq_eq_false_iff_ne.mpr c5
      have c5b1 : (a1 != (-9223372036854775808)) = true := bne_iff_ne.mpr c5
      by_cases c6 : a1 < (wrap64 ((-9223372036854775808) + a2))
      · rw [if_pos c6] at H
        have c6b0 : decide (a1 < (wrap64 ((-9223372036854775808) + a2))) = true := decide_eq_true c6
        clear c6
        obtain rfl := Option.some.inj H
        go_enter Try.func10, Try.ntmps10
        go_wp2
        go_ret
        exact ⟨by first | rfl | (simp [errW_none, errW_some] <;> rfl) | (simp [*, errW_none, errW_some] <;> rfl), by repeat (first | (with_reducible first | exact HB.out | apply below_alloc | apply pw_below_drewN | apply below_drew1) | exact HB.out)⟩
      · rw [if_neg c6] at H
        have c6b0 : decide (a1 < (wrap64 ((-9223372036854775808) + a2))) = false := decide_eq_false c6
        clear c6
        obtain ⟨ji7, hji7⟩ : ∃ j_ : Int, (mx a0 (wrap64 (a1 - a2))) = j_ := ⟨_, rfl⟩
        replace H : (some ji7) = some r := by first | (rw [hji7] at H; exact H) | (simp only [hji7] at H ⊢; exact H)
        have hji7_ : (if a0 < (wrap64 (a1 - a2)) then (wrap64 (a1 - a2)) else a0) = ji7 := hji7
        obtain rfl := Option.some.inj H
        go_enter Try.func10, Try.ntmps10
        go_wp2
        go_ret
        exact ⟨by first | rfl | (simp [errW_none, errW_some] <;> rfl) | (simp only [← hji7]; first | rfl | (simp [errW_none, errW_some] <;> rfl)) | (simp [*, errW_none, errW_some] <;> rfl), by repeat (first | (with_reducible first | exact HB.out | apply below_alloc | apply pw_below_drewN | apply below_drew1) | exact HB.out)⟩

end Go.Proofs.Ythjfffgddegmoaa.PA

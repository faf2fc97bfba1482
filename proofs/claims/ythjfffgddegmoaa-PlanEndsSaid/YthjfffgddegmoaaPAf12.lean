-- written by wip/gprint.py of this session (it runs the print of the guide's kit over contracts of the session)
import Derived.Test.YthjfffgddegmoaaPA0
import Derived.Test.YthjfffgddegmoaaPAf10
namespace Go.Proofs.Ythjfffgddegmoaa.PA
open Go.RowKit Go.Proofs.YthjfffgddegmoaaW.PrintWords Go.Proofs.YthjfffgddegmoaaW.PrintLast Go.Proofs.YthjfffgddegmoaaW.PrintMore
attribute [local go_sem] max2_int min2_int max_two min_two max_three min_three max_four min_four   -- for this text's walks alone
set_option linter.unusedVariables false
set_option linter.unusedSimpArgs false

/-! ### dryrotlaw16_awake: function 12 -/
def dryrotlaw16_awake.f  : Option (Bool) := (plan_Floor.f 0 100 30).bind fun t101 => (some (t101 == 70))
set_option maxHeartbeats 8000000 in
set_option maxRecDepth 100000 in
theorem dryrotlaw16_awake.calls  (r : Bool) (w : World) (h : dryrotlaw16_awake.f  = some r) :
    Calls Try.prog 12 #[] w fun e w' => e = .returned (.bool r) ∧ Below w.heap.size w w' := by
  have HB := Aside0.mk (Below.refl w.heap.size w)
  have H : ((plan_Floor.f 0 100 30).bind fun t101 => (some (t101 == 70))) = some r := h
  clear h
  replace H := Option.bind_eq_some_iff.mp H
  obtain ⟨t101, A10, H⟩ := H
  replace H : (some (t101 == 70)) = some r := H
  have A1 := Aside0.mk A10
  clear A10
  obtain rfl := Option.some.inj H
  go_enter Try.func12, Try.ntmps12
  go_wp2_with (first | ((with_reducible refine gate_callee (f := 10) rfl ?_); refine goesL_ (some 1) rfl rfl Try.func10 (by kernel_rfl) rfl #[.int .i64 0, .int .i64 100, .int .i64 30] rfl (by (try simp only [List.map_toArray, List.map_cons, List.map_nil]); first | done | rfl | (simp only [List.length_drop, List.length_take]; rfl)) ?_; (with_reducible refine (plan_Floor.calls 0 100 30 t101 _ A1.out).mono ?_); rintro e w2 ⟨rfl, hb⟩; refine ⟨_, rfl, ?_⟩; have n0_ := Aside0.mk (below_step (by repeat (first | (with_reducible first | exact HB.out | apply below_alloc | apply pw_below_drewN | apply below_drew1) | exact HB.out)) hb); clear HB; have HB := n0_; clear n0_; (try clear hb); (try clear hb2); (try clear hk); (try clear hi)))
  go_ret
  exact ⟨by first | rfl | (simp [errW_none, errW_some] <;> rfl) | (simp [*, errW_none, errW_some] <;> rfl), by repeat (first | (with_reducible first | exact HB.out | apply below_alloc | apply pw_below_drewN | apply below_drew1) | exact HB.out)⟩

end Go.Proofs.Ythjfffgddegmoaa.PA

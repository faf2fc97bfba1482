/- The law PlanFloors answers true for every floor, newest time and keep: the program's floor is the reference's, it never falls, and it stays where it is. No condition. -/
import Derived.Test.YthjfffgddegmoaaPPlanFloorsx1
namespace Go.Proofs.Ythjfffgddegmoaa.Pure
open Go.RowKit Go.Proofs.Ythjfffgddegmoaa.PPlanFloors Go.Proofs.YthjfffgddegmoaaW.PrintWords Go.Proofs.YthjfffgddegmoaaW.PrintLast

theorem bnd {n : Int} (h : (Lit.int .i64 n).wf = true) : -9223372036854775808 ≤ n ∧ n ≤ 9223372036854775807 := by
  simpa [Lit.wf, IntKind.min, IntKind.max, IntKind.signed, IntKind.bits] using h

theorem awake_true : dryrotlaw16_awake.f = some true := by
  simp [dryrotlaw16_awake.f, plan_Floor.f, mx, wrap64]

theorem floor_ref (k : Nat) (a b c : Int) : dryrotref16_Floor.f (k + 1) a b c = plan_Floor.f a b c := by
  unfold dryrotref16_Floor.f plan_Floor.f
  by_cases h1 : c ≤ 0
  · simp [h1, dryrotref16_Floor.j0]
  · by_cases h2 : b = -9223372036854775808
    · simp [h1, h2, dryrotref16_Floor.j0]
    · simp [h1, h2, dryrotref16_Floor.j0]

theorem PlanFloors : dryrotlaw16_PlanFloors.Pure := by
  intro a b c ha hb hc
  have ha := bnd ha
  have hb := bnd hb
  have hc := bnd hc
  refine ⟨1, ?_⟩
  unfold dryrotlaw16_PlanFloors.f
  rw [floor_ref 0]
  have key : ∃ f, plan_Floor.f a b c = some f ∧ a ≤ f ∧ plan_Floor.f f b c = some f := by
    by_cases h1 : c ≤ 0
    · exact ⟨a, by simp [plan_Floor.f, h1], Int.le_refl _, by simp [plan_Floor.f, h1]⟩
    · by_cases h2 : b = -9223372036854775808
      · exact ⟨a, by simp [plan_Floor.f, h2], Int.le_refl _, by simp [plan_Floor.f, h2]⟩
      · by_cases h3 : b < wrap64 (-9223372036854775808 + c)
        · exact ⟨a, by simp [plan_Floor.f, h3], Int.le_refl _, by simp [plan_Floor.f, h3]⟩
        · refine ⟨mx a (wrap64 (b - c)), by simp [plan_Floor.f, h1, h2, h3], by unfold mx; omega, ?_⟩
          have : mx (mx a (wrap64 (b - c))) (wrap64 (b - c)) = mx a (wrap64 (b - c)) := by unfold mx; omega
          simp [plan_Floor.f, h1, h2, h3, this]
  obtain ⟨f, h1, h2, h3⟩ := key
  simp [h1, h3, awake_true, h2]

end Go.Proofs.Ythjfffgddegmoaa.Pure

/- The plain law PlanBlocks. -/
import Derived.Test.YthjfffgddegmoaaGPlanM
import Derived.Test.YthjfffgddegmoaaGFoot
import Derived.Test.YthjfffgddegmoaaPAf5
namespace Go.Proofs.Ythjfffgddegmoaa.PA
open Go.RowKit Go.Proofs.Ythjfffgddegmoaa.G Go.Proofs.YthjfffgddegmoaaW.PrintWords Go.Proofs.YthjfffgddegmoaaW.PrintLast Go.Proofs.YthjfffgddegmoaaW.PrintMore
set_option linter.unusedVariables false

theorem mergeL_len : ∀ l : List S30, (mergeL l).length ≤ 3
  | [] | [_] | [_, _] => by simp [mergeL]
  | a :: b :: c :: r => by
    rw [mergeL]
    split
    · simp
    · exact mergeL_len (b :: c :: r)
theorem PlanBlocks_pure (l : List S30) (a : Int) : ∃ k, dryrotlaw16_PlanBlocks.f k l a = some true := by
  have hl : (l.take 14).length ≤ 14 := by rw [List.length_take]; omega
  obtain ⟨k, hk⟩ := rcan_f (l.take 14) (by omega)
  refine ⟨k + 100, ?_⟩
  have hk2 := up (fun k => dryrotref16_Can.mono (l.take 14) k) hk 100
  have hs := sel_len a (l.take 14)
  have hm := mergeL_len (l.take 14)
  unfold dryrotlaw16_PlanBlocks.f
  rw [cut_f, Option.bind_some, plan_Can.f, if_pos (by omega), Option.bind_some, hk2, Option.bind_some, if_pos (by simp), plan_Expired.f, if_pos (by omega), Option.bind_some, expired_f a _ (by omega) _ (by omega), Option.bind_some, equal_f _ (by omega) _ (by omega), Option.bind_some, if_pos rfl, plan_Merge.f, if_pos (by omega), Option.bind_some, merge_f _ (by omega) _ (by omega), Option.bind_some, equal_f _ (by omega) _ (by omega), Option.bind_some, if_pos rfl, awake_f]
  rfl
end Go.Proofs.Ythjfffgddegmoaa.PA
namespace Go.Proofs.Ythjfffgddegmoaa.G.PlanBlocks
set_option linter.unusedVariables false
open Go.RowKit Go.Proofs.Ythjfffgddegmoaa.G Go.Proofs.Ythjfffgddegmoaa.PA Go.Proofs.YthjfffgddegmoaaW.PrintWords Go.Proofs.YthjfffgddegmoaaW.PrintLast Go.Proofs.YthjfffgddegmoaaW.PrintMore
theorem walk (A0 : Option Addr) (c0 : Nat) (l0 : List S30) (a : Int) (w : World) (hr : Kd.C k30 w A0 l0.length l0) (hc : l0.length ≤ c0) (hw : ∀ x ∈ l0, wfS x) (ha : (Lit.int .i64 a).wf = true) :
    Calls Try.prog 5 #[.slice A0 l0.length c0, .int .i64 a] w fun e w' => e = .returned (.bool true) ∧ Below w.heap.size w w' := by
  obtain ⟨k, hk⟩ := PlanBlocks_pure l0 a
  exact dryrotlaw16_PlanBlocks.calls k A0 c0 l0 a true w hr hc hk
end Go.Proofs.Ythjfffgddegmoaa.G.PlanBlocks

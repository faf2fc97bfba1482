/- The plain law PlanMerged. -/
import Derived.Test.YthjfffgddegmoaaGPlanM
import Derived.Test.YthjfffgddegmoaaGFoot
import Derived.Test.YthjfffgddegmoaaPMerged
import Derived.Test.YthjfffgddegmoaaPAf23
import Derived.Test.YthjfffgddegmoaaPAf24
import Derived.Test.YthjfffgddegmoaaPAf6
namespace Go.Proofs.Ythjfffgddegmoaa.PA
open Go.RowKit Go.Proofs.Ythjfffgddegmoaa.G Go.Proofs.YthjfffgddegmoaaW.PrintWords Go.Proofs.YthjfffgddegmoaaW.PrintLast Go.Proofs.YthjfffgddegmoaaW.PrintMore
set_option linter.unusedVariables false

theorem mergeL_three : ∀ l : List S30, mergeL l = [] ∨ (mergeL l).length = 3
  | [] | [_] | [_, _] => by simp [mergeL]
  | a :: b :: c :: r => by
    rw [mergeL]
    split
    · simp
    · exact mergeL_three (b :: c :: r)
theorem ref_merged (l : List S30) (n g : Int) (hl : l.length ≤ 14) (k : Nat) (hk : 100 ≤ k) (hcan : dryrotref16_Can.f k l = some (canAll l)) :
    dryrotref16_Merged.f k l n g = plan_Merged.f l n g := by
  have hm := merge_f l (by omega) k (by omega)
  unfold dryrotref16_Merged.f plan_Merged.f mayMerge
  rw [if_pos (show l.length ≤ 1000000 by omega)]
  by_cases h3 : l.length = 3
  · rw [if_pos (show (l.length : Int) = 3 by omega), hcan, Option.bind_some, hm, Option.bind_some, rnum_f, Option.bind_some, rnum_f, Option.bind_some, Option.bind_some]
    rw [if_pos (show 0 < (l.length : Int) by omega), if_pos (show 2 < (l.length : Int) by omega)]
    rcases mergeL_three l with he | he
    · cases canAll l <;> cases numB n <;> cases numB g <;> simp [h3, he]
    · have hne : (mergeL l).isEmpty = false := by
        cases h : mergeL l with
        | nil => rw [h] at he; cases he
        | cons => rfl
      cases canAll l <;> cases numB n <;> cases numB g <;> simp [h3, he, hne]
  · rw [if_neg (show ¬ (l.length : Int) = 3 by omega), if_neg (by simp [h3])]
theorem same_refl (a b c d e f g : Int) (l : List Int) (hl : l.length ≤ 1000000) (k : Nat) (hk : l.length < k) : dryrotplain_SameFooter.f k a b c d e f g l a b c d e f g l = some true := by
  unfold dryrotplain_SameFooter.f
  simp only [if_true]
  rw [equal_f l hl k hk]
  rfl
theorem plan_Merged_some (l : List S30) (n g : Int) (hl : l.length ≤ 14) : ∃ t, plan_Merged.f l n g = some t ∧ t.2.2.2.2.2.2.2.1.length ≤ 3 := by
  unfold plan_Merged.f
  rw [if_pos (by omega)]
  split
  · refine ⟨_, rfl, ?_⟩
    rcases mergeL_three l with he | he <;> simp [he]
  · exact ⟨_, rfl, by simp⟩
theorem PlanMerged_pure (l : List S30) (n g : Int) : ∃ k, dryrotlaw16_PlanMerged.f k l n g = some true := by
  have hl : (l.take 14).length ≤ 14 := by rw [List.length_take]; omega
  obtain ⟨k, hk⟩ := rcan_f (l.take 14) (by omega)
  refine ⟨k + 100, ?_⟩
  have hk2 := up (fun k => dryrotref16_Can.mono (l.take 14) k) hk 100
  obtain ⟨t, ht, hlen⟩ := plan_Merged_some (l.take 14) n g hl
  unfold dryrotlaw16_PlanMerged.f
  rw [cut_f, Option.bind_some, ref_merged _ n g hl _ (by omega) hk2, ht, Option.bind_some, Option.bind_some, same_refl _ _ _ _ _ _ _ _ (by omega) _ (by omega), Option.bind_some, if_pos rfl, if_pos rfl, awake_f]
  rfl
end Go.Proofs.Ythjfffgddegmoaa.PA
namespace Go.Proofs.Ythjfffgddegmoaa.G.PlanMerged
set_option linter.unusedVariables false
open Go.RowKit Go.Proofs.Ythjfffgddegmoaa.G Go.Proofs.Ythjfffgddegmoaa.PA Go.Proofs.YthjfffgddegmoaaW.PrintWords Go.Proofs.YthjfffgddegmoaaW.PrintLast Go.Proofs.YthjfffgddegmoaaW.PrintMore
theorem walk (A0 : Option Addr) (c0 : Nat) (l0 : List S30) (a b : Int) (w : World) (hr : Kd.C k30 w A0 l0.length l0) (hc : l0.length ≤ c0) (hw : ∀ x ∈ l0, wfS x) (ha : (Lit.int .i64 a).wf = true) (hb : (Lit.int .i64 b).wf = true) :
    Calls Try.prog 6 #[.slice A0 l0.length c0, .int .i64 a, .int .i64 b] w fun e w' => e = .returned (.bool true) ∧ Below w.heap.size w w' := by
  obtain ⟨k, hk⟩ := PlanMerged_pure l0 a b
  exact dryrotlaw16_PlanMerged.calls k A0 c0 l0 a b true w hr hc hk
end Go.Proofs.Ythjfffgddegmoaa.G.PlanMerged

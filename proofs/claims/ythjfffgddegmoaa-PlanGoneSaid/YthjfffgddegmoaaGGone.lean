/- PlanGone, plain: what is left of blocks that may be may be; what is gone is told. -/
import Derived.Test.YthjfffgddegmoaaGPlanM
import Derived.Test.YthjfffgddegmoaaPAf15
import Derived.Test.YthjfffgddegmoaaGFoot
namespace Go.Proofs.Ythjfffgddegmoaa.G
open Go.RowKit Go.Proofs.Ythjfffgddegmoaa.PA Go.Proofs.YthjfffgddegmoaaW.PrintWords Go.Proofs.YthjfffgddegmoaaW.PrintMore
set_option linter.unusedVariables false
set_option linter.unusedSimpArgs false

theorem contains_go (l : List Int) (v : Int) (hl : l.length ≤ 1000000) : ∀ d i, i + d = l.length → ∀ k, d < k → ∃ r : Int, slices_Index_int_int.l0 k l v (l.length : Int) (i : Int) = some r ∧ (decide (r ≥ 0)) = (l.drop i).contains v
  | 0, i, h, k + 1, hk => by
    refine ⟨-1, ?_, ?_⟩
    · unfold slices_Index_int_int.l0
      rw [if_neg (by omega)]
    · rw [List.drop_of_length_le (by omega)]
      rfl
  | d + 1, i, h, k + 1, hk => by
    have hi : i < l.length := by omega
    unfold slices_Index_int_int.l0
    rw [if_pos (by omega), if_pos (by omega), if_pos (by omega), show rd l (i : Int) = l[i] from by simp [rd, List.getD_eq_getElem?_getD, List.getElem?_eq_getElem hi], List.drop_eq_getElem_cons hi, List.contains_cons]
    by_cases e : v = l[i]
    · rw [if_pos e]
      exact ⟨i, rfl, by simp [e]⟩
    · rw [if_neg e, wr1 (by omega)]
      obtain ⟨r, h1, h2⟩ := contains_go l v hl d (i + 1) (by omega) k (by omega)
      exact ⟨r, h1, by rw [h2, show (v == l[i]) = false from beq_eq_false_iff_ne.2 e, Bool.false_or]⟩
theorem contains_f (l : List Int) (v : Int) (hl : l.length ≤ 1000000) (k : Nat) (hk : l.length < k) : slices_Contains_int_int.f k l v = some (l.contains v) := by
  obtain ⟨r, h1, h2⟩ := contains_go l v hl l.length 0 (by omega) k hk
  have h1' : slices_Index_int_int.l0 k l v (l.length : Int) 0 = some r := h1
  rw [slices_Contains_int_int.f, slices_Index_int_int.f, h1', Option.bind_some, h2, List.drop_zero]

/-- what is left -/
def left (a : Int) (l : List S30) : List S30 := l.filter fun x => !gone a x
theorem left_len (a : Int) (l : List S30) : (left a l).length ≤ l.length := List.length_filter_le _ _
theorem sel_left (a : Int) (l : List S30) : (sel a l).length + (left a l).length = l.length := by
  unfold sel left
  rw [List.length_map]
  induction l with
  | nil => rfl
  | cons x r ih =>
    rw [List.filter_cons, List.filter_cons, List.length_cons]
    cases gone a x <;> simp <;> omega
theorem sel_of_left (a : Int) (l : List S30) : sel a (left a l) = [] := by
  unfold sel left
  rw [List.filter_filter]
  simp
theorem left_take (a : Int) (l : List S30) (k : Nat) (hk : k < l.length) : left a (l.take (k + 1)) = left a (l.take k) ++ if gone a (rd_T30 l (k : Int)) = true then [] else [rd_T30 l (k : Int)] := by
  rw [rd_nat l k hk, List.take_succ_eq_append_getElem hk]
  unfold left
  rw [List.filter_append, List.filter_cons]
  cases gone a l[k] <;> simp
theorem sel_has (a : Int) (l : List S30) (k : Nat) (hk : k < l.length) (h : gone a (rd_T30 l (k : Int)) = true) : (sel a l).contains (rd_T30 l (k : Int)).f0 = true := by
  rw [rd_nat l k hk] at h ⊢
  unfold sel
  rw [List.contains_iff_mem]
  exact List.mem_map.2 ⟨_, List.mem_filter.2 ⟨List.getElem_mem hk, h⟩, rfl⟩
theorem canGo_filter (p : S30 → Bool) : ∀ (l : List S30) (rank rank' : Int) (met met' : List Int), canGo l rank met = true → rank' ≤ rank → (∀ x ∈ met', x ∈ met) → canGo (l.filter p) rank' met' = true
  | [], _, _, _, _, _, _, _ => rfl
  | x :: r, rank, rank', met, met', h, hr, hm => by
    simp only [canGo, Bool.and_eq_true, decide_eq_true_eq, Bool.not_eq_true'] at h
    obtain ⟨⟨⟨h1, h2⟩, h3⟩, h4⟩ := h
    rw [List.filter_cons]
    split
    · simp only [canGo, Bool.and_eq_true, decide_eq_true_eq, Bool.not_eq_true']
      refine ⟨⟨⟨h1, by omega⟩, ?_⟩, canGo_filter p r _ _ _ _ h4 (Int.le_refl _) ?_⟩
      · rw [Bool.eq_false_iff] at h3 ⊢
        intro q
        exact h3 (by rw [List.contains_iff_mem] at q ⊢; exact hm _ q)
      · intro y hy
        rcases List.mem_append.1 hy with hy | hy
        · exact List.mem_append_left _ (hm y hy)
        · exact List.mem_append_right _ hy
    · exact canGo_filter p r _ _ _ _ h4 (by omega) (fun y hy => List.mem_append_left _ (hm y hy))
theorem can_left (a : Int) (l : List S30) (h : canAll l = true) : canAll (left a l) = true := canGo_filter _ l 0 0 [] [] h (Int.le_refl _) (fun _ hx => hx)
end Go.Proofs.Ythjfffgddegmoaa.G

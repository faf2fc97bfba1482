/- What the document's answers for plan come to: Can, Expired, Merge, as the program's. -/
import Derived.Test.YthjfffgddegmoaaPAf12
import Derived.Test.YthjfffgddegmoaaPAf13
import Derived.Test.YthjfffgddegmoaaPAf18
import Derived.Test.YthjfffgddegmoaaPAf19
import Derived.Test.YthjfffgddegmoaaPAf21
import Derived.Test.YthjfffgddegmoaaPAf17
import Derived.Test.YthjfffgddegmoaaPCan
import Derived.Test.YthjfffgddegmoaaPMerge
import Derived.Test.YthjfffgddegmoaaPGone
namespace Go.Proofs.Ythjfffgddegmoaa.G
open Go.RowKit Go.Proofs.Ythjfffgddegmoaa.PA Go.Proofs.YthjfffgddegmoaaW.PrintWords Go.Proofs.YthjfffgddegmoaaW.PrintMore
set_option linter.unusedVariables false
set_option linter.unusedSimpArgs false

theorem bool_two (b : Bool) : b = false ∨ b = true := by cases b <;> simp
theorem up {α : Type} {f : Nat → Option α} (hm : ∀ k, LeO (f k) (f (k + 1))) {a : Nat} {r : α} (e : f a = some r) : ∀ d, f (a + d) = some r
  | 0 => e
  | d + 1 => hm _ _ (up hm e d)
theorem up_to {α : Type} {f : Nat → Option α} (hm : ∀ k, LeO (f k) (f (k + 1))) {a b : Nat} {r : α} (e : f a = some r) (h : a ≤ b) : f b = some r := by
  have := up hm e (b - a)
  rwa [show a + (b - a) = b by omega] at this
theorem wr1 {i : Nat} (h : i ≤ 1000000) : wrap64 ((i : Int) + 1) = ((i + 1 : Nat) : Int) := by rw [w64 (by omega) (by omega)]; omega
theorem wr2 {i : Nat} (h : i ≤ 1000000) : wrap64 ((i : Int) + 2) = ((i + 2 : Nat) : Int) := by rw [w64 (by omega) (by omega)]; omega
theorem wrm {i : Nat} (h : i ≤ 1000000) (h0 : 0 < i) : wrap64 ((i : Int) - 1) = ((i - 1 : Nat) : Int) := by rw [w64 (by omega) (by omega)]; omega

theorem cut_f (l : List S30) : dryrotlaw16_cut.f l = some (l.take 14) := by
  unfold dryrotlaw16_cut.f mn
  by_cases h : (14 : Int) < l.length
  · rw [if_pos h]
    rw [if_pos (by omega), if_pos (by omega)]
    rfl
  · rw [if_neg h, if_pos (by omega), if_pos (by omega)]
    rw [Int.toNat_natCast, List.take_length, List.take_of_length_le (by omega)]
theorem awake_f : dryrotlaw16_awake.f = some true := by decide +kernel
theorem equal_go (l : List Int) (hl : l.length ≤ 1000000) : ∀ d i, i + d = l.length → ∀ k, d < k → slices_Equal_int_int.l0 k l l (l.length : Int) (i : Int) = some true
  | 0, i, h, k + 1, hk => by
    unfold slices_Equal_int_int.l0
    rw [if_neg (by omega)]
  | d + 1, i, h, k + 1, hk => by
    unfold slices_Equal_int_int.l0
    rw [if_pos (by omega), if_pos (by omega), if_pos (by omega), if_pos (by omega), if_pos rfl, wr1 (by omega)]
    exact equal_go l hl d (i + 1) (by omega) k (by omega)
theorem equal_f (l : List Int) (hl : l.length ≤ 1000000) (k : Nat) (hk : l.length < k) : slices_Equal_int_int.f k l l = some true := by
  unfold slices_Equal_int_int.f
  rw [if_pos rfl]
  exact equal_go l hl l.length 0 (by omega) k hk

theorem sel_drop (a : Int) (l : List S30) (i : Nat) (h : i < l.length) : sel a (l.drop i) = (if gone a (rd_T30 l (i : Int)) = true then [(rd_T30 l (i : Int)).f0] else []) ++ sel a (l.drop (i + 1)) := by
  rw [rd_nat l i h, List.drop_eq_getElem_cons h]
  unfold sel
  rw [List.filter_cons]
  split <;> simp
theorem expired_go (a : Int) (l : List S30) (hl : l.length ≤ 1000000) : ∀ d i, i + d = l.length → ∀ k acc, d < k → acc.length ≤ i → dryrotref16_Expired.l0 k a acc l (l.length : Int) (i : Int) = some (acc ++ sel a (l.drop i))
  | 0, i, h, k + 1, acc, hk, ha => by
    unfold dryrotref16_Expired.l0
    rw [if_neg (by omega), List.drop_of_length_le (by omega)]
    simp [sel]
  | d + 1, i, h, k + 1, acc, hk, ha => by
    unfold dryrotref16_Expired.l0
    rw [if_pos (by omega), if_pos (by omega), if_pos (by omega), sel_drop a l i (by omega), wr1 (by omega)]
    have ha' : acc.length < 17592186044416 := by omega
    generalize rd_T30 l (i : Int) = x
    by_cases h1 : x.f5 < a
    · rw [if_pos h1, if_pos ha', if_pos (by simp [gone, h1]), expired_go a l hl d (i + 1) (by omega) k _ (by omega) (by simp; omega), List.append_assoc]
    · rw [if_neg h1]
      by_cases h2 : x.f6 = 0
      · rw [if_pos h2, if_pos ha', if_pos (by simp [gone, h2]), expired_go a l hl d (i + 1) (by omega) k _ (by omega) (by simp; omega), List.append_assoc]
      · rw [if_neg h2, if_neg (by simp [gone, h1, h2]), expired_go a l hl d (i + 1) (by omega) k _ (by omega) (by omega), List.nil_append]
theorem expired_f (a : Int) (l : List S30) (hl : l.length ≤ 1000000) (k : Nat) (hk : l.length < k) : dryrotref16_Expired.f k l a = some (sel a l) := by
  unfold dryrotref16_Expired.f
  have := expired_go a l hl l.length 0 (by omega) k [] hk (by simp)
  simpa using this

theorem merge_go (l : List S30) (hl : l.length ≤ 1000000) : ∀ d i, i + d = l.length → ∀ k, d < k → dryrotref16_Merge.l0 k l (i : Int) = some (mergeL (l.drop i))
  | d, i, h, k + 1, hk => by
    unfold dryrotref16_Merge.l0
    rw [wr1 (by omega), wr2 (by omega)]
    by_cases h1 : i + 2 < l.length
    · rw [if_pos (by omega), if_pos (by omega), if_pos (by omega), if_pos (by omega), if_pos (by omega), mergeL_step l i h1]
      have hn : dryrotref16_Merge.l0 k l ((i + 1 : Nat) : Int) = some (mergeL (l.drop (i + 1))) := merge_go l hl (d - 1) (i + 1) (by omega) k (by omega)
      rw [hn]
      generalize rd_T30 l (i : Int) = x
      generalize rd_T30 l ((i + 1 : Nat) : Int) = y
      generalize rd_T30 l ((i + 2 : Nat) : Int) = z
      by_cases e1 : x.f2 = y.f2
      · rw [if_pos e1, if_pos (by omega)]
        by_cases e2 : y.f2 = z.f2
        · rw [if_pos e2]
          by_cases e3 : x.f2 < 3
          · rw [if_pos e3, if_pos (by simp [three, e1, e2]; omega)]
          · rw [if_neg e3, if_neg (by simp [three, e1, e2]; omega)]
        · rw [if_neg e2, if_neg (by simp [three, e2])]
      · rw [if_neg e1, if_neg (by simp [three, e1])]
    · rw [if_neg (by omega), mergeL_end l i (by omega)]
termination_by d i h k => d
theorem merge_f (l : List S30) (hl : l.length ≤ 1000000) (k : Nat) (hk : l.length < k) : dryrotref16_Merge.f k l = some (mergeL l) := by
  unfold dryrotref16_Merge.f
  exact merge_go l hl l.length 0 (by omega) k hk

theorem rnum_f (n : Int) : dryrotref16_number.f n = some (numB n) := by
  unfold dryrotref16_number.f numB
  by_cases h : 1 ≤ n <;> simp [h, show (n ≥ 1) ↔ 1 ≤ n from Iff.rfl]
theorem can_l1 (l : List S30) (q : Int) (i' : Int) (ys : List S30) (hl : ys.length ≤ 1000000) (a0 a1 a2 a3 a4 a5 a6 : Int) (a7 : List Int) : ∀ d i, i + d = ys.length → ∀ k,
    dryrotref16_Can.l1 (k + d + 1) l l q i' ys (ys.length : Int) (i : Int) a0 a1 a2 a3 a4 a5 a6 a7 = if (ys.drop i).any (fun y => y.f0 == a0) = true then some false else dryrotref16_Can.l0 (k) l l q (wrap64 (i' + 1))
  | 0, i, h, k => by
    unfold dryrotref16_Can.l1
    rw [if_neg (by omega), List.drop_of_length_le (by omega)]
    simp
  | d + 1, i, h, k => by
    unfold dryrotref16_Can.l1
    rw [if_pos (by omega), if_pos (by omega), if_pos (by omega), wr1 (by omega), rd_nat ys i (by omega), List.drop_eq_getElem_cons (show i < ys.length by omega), List.any_cons]
    by_cases e : ys[i].f0 = a0
    · rw [if_pos e, if_pos (by simp [e])]
    · rw [if_neg e, show k + (d + 1) = k + d + 1 by omega, can_l1 l q i' ys hl a0 a1 a2 a3 a4 a5 a6 a7 d (i + 1) (by omega) k]
      simp [e]
theorem can_j1 (l : List S30) (i : Nat) (hi : i < l.length) (k : Nat) : dryrotref16_Can.l0 (k + 1) l l (l.length : Int) (i : Int) = dryrotref16_Can.j1 k l (i : Int) l (l.length : Int) (i : Int) (!canB (rd_T30 l (i : Int))) (rd_T30 l (i : Int)).f0 (rd_T30 l (i : Int)).f1 (rd_T30 l (i : Int)).f2 (rd_T30 l (i : Int)).f3 (rd_T30 l (i : Int)).f4 (rd_T30 l (i : Int)).f5 (rd_T30 l (i : Int)).f6 (rd_T30 l (i : Int)).f7 := by
  rw [dryrotref16_Can.l0]
  rw [if_pos (by omega), if_pos (by omega), if_pos (by omega)]
  generalize rd_T30 l (i : Int) = x
  simp only [rnum_f, Option.bind_some]
  unfold canB
  rcases bool_two (numB x.f0) with h0 | h0
  · rw [if_neg (by simp [h0])]; simp [h0]
  rw [if_pos h0]
  rcases bool_two (numB x.f3) with h1 | h1
  · rw [if_neg (by simp [h1])]; simp [h0, h1]
  rw [if_pos h1]
  rcases bool_two (numB x.f1) with h2 | h2
  · rw [if_neg (by simp [h2])]; simp [h0, h1, h2]
  rw [if_pos h2]
  by_cases h3 : x.f2 < 1
  · rw [if_pos h3]; simp [h0, h1, h2, show ¬ (1 ≤ x.f2) by omega]
  rw [if_neg h3]
  by_cases h4 : x.f2 > 3
  · rw [if_pos h4]; simp [h0, h1, h2, show ¬ (x.f2 ≤ 3) by omega]
  rw [if_neg h4]
  by_cases h5 : x.f6 < 0
  · rw [if_pos h5]; simp [h0, h1, h2, show ¬ (0 ≤ x.f6) by omega]
  rw [if_neg h5]
  by_cases h6 : x.f6 > 2147483647
  · rw [if_pos h6]; simp [h0, h1, h2, show ¬ (x.f6 ≤ 2147483647) by omega]
  rw [if_neg h6]
  have e : (decide (x.f4 > x.f5)) = !(numB x.f0 && numB x.f3 && numB x.f1 && decide (1 ≤ x.f2) && decide (x.f2 ≤ 3) && decide (0 ≤ x.f6) && decide (x.f6 ≤ 2147483647) && decide (x.f4 ≤ x.f5)) := by
    rw [h0, h1, h2, decide_eq_true (show 1 ≤ x.f2 by omega), decide_eq_true (show x.f2 ≤ 3 by omega), decide_eq_true (show 0 ≤ x.f6 by omega), decide_eq_true (show x.f6 ≤ 2147483647 by omega)]
    by_cases h7 : x.f4 ≤ x.f5
    · simp [h7, show ¬ (x.f5 < x.f4) by omega]
    · simp [h7, show (x.f5 < x.f4) by omega]
  rw [e]
theorem take_any (l : List S30) (i : Nat) (n : Int) : ((l.take i).any fun y => y.f0 == n) = ((l.take i).map (·.f0)).contains n := by
  induction l.take i with
  | nil => rfl
  | cons a r ih =>
    rw [List.any_cons, List.map_cons, List.contains_cons, ih]
    congr 1
    exact Bool.eq_iff_iff.2 ⟨fun h => by simpa using (beq_iff_eq.1 h).symm, fun h => by simpa using (beq_iff_eq.1 h).symm⟩
/-- the rank ahead of a place -/
def prevRank (l : List S30) (i : Nat) : Int := if i = 0 then 0 else (rd_T30 l ((i - 1 : Nat) : Int)).f3
theorem can_go (l : List S30) (hl : l.length ≤ 1000000) : ∀ d i, i + d = l.length → ∃ k, dryrotref16_Can.l0 k l l (l.length : Int) (i : Int) = some (canGo (l.drop i) (prevRank l i) ((l.take i).map (·.f0)))
  | 0, i, h => ⟨1, by
    unfold dryrotref16_Can.l0
    rw [if_neg (by omega), List.drop_of_length_le (by omega)]
    rfl⟩
  | d + 1, i, h => by
    obtain ⟨k, hk⟩ := can_go l hl d (i + 1) (by omega)
    have hi : i < l.length := by omega
    refine ⟨k + i + 1 + 1 + 1 + 1, ?_⟩
    rw [can_j1 l i hi, canGo_cons l i hi]
    have e1 : prevRank l (i + 1) = (rd_T30 l (i : Int)).f3 := by simp [prevRank]
    have e2 : (l.take (i + 1)).map (·.f0) = (l.take i).map (·.f0) ++ [(rd_T30 l (i : Int)).f0] := by rw [List.take_succ_eq_append_getElem hi, List.map_append, rd_nat l i hi]; rfl
    rw [e1, e2] at hk
    unfold dryrotref16_Can.j1
    rcases bool_two (canB (rd_T30 l (i : Int))) with hc | hc
    · rw [hc]
      simp
    rw [hc, if_neg (by simp)]
    have hp : prevRank l i < (rd_T30 l (i : Int)).f3 ∨ ¬ prevRank l i < (rd_T30 l (i : Int)).f3 := Decidable.em _
    have htail : dryrotref16_Can.j2 (k + i + 1 + 1) l (i : Int) l (l.length : Int) (i : Int) false (rd_T30 l (i : Int)).f0 (rd_T30 l (i : Int)).f1 (rd_T30 l (i : Int)).f2 (rd_T30 l (i : Int)).f3 (rd_T30 l (i : Int)).f4 (rd_T30 l (i : Int)).f5 (rd_T30 l (i : Int)).f6 (rd_T30 l (i : Int)).f7 = some (!((l.take i).map (·.f0)).contains (rd_T30 l (i : Int)).f0 && canGo (l.drop (i + 1)) (rd_T30 l (i : Int)).f3 ((l.take i).map (·.f0) ++ [(rd_T30 l (i : Int)).f0])) := by
      unfold dryrotref16_Can.j2
      rw [if_neg (by simp), if_pos (by omega), if_pos (by omega), Option.bind_some, Int.toNat_natCast]
      have hlen : (l.take i).length = i := by rw [List.length_take]; omega
      have := can_l1 l (l.length : Int) (i : Int) (l.take i) (by omega) (rd_T30 l (i : Int)).f0 (rd_T30 l (i : Int)).f1 (rd_T30 l (i : Int)).f2 (rd_T30 l (i : Int)).f3 (rd_T30 l (i : Int)).f4 (rd_T30 l (i : Int)).f5 (rd_T30 l (i : Int)).f6 (rd_T30 l (i : Int)).f7 i 0 (by omega) k
      rw [show ((0 : Nat) : Int) = 0 from rfl] at this
      rw [this, List.drop_zero, take_any, wr1 (by omega), hk]
      cases ((l.take i).map (·.f0)).contains (rd_T30 l (i : Int)).f0 <;> simp
    by_cases h0 : 0 < i
    · rw [if_pos (by omega), wrm (by omega) h0, if_pos (by omega), if_pos (by omega)]
      have ep : prevRank l i = (rd_T30 l ((i - 1 : Nat) : Int)).f3 := by simp [prevRank, show ¬ i = 0 by omega]
      rw [ep] at hp ⊢
      rcases hp with hp | hp
      · rw [decide_eq_false (by omega), htail, decide_eq_true hp]
        rfl
      · rw [decide_eq_true (by omega), decide_eq_false hp]
        unfold dryrotref16_Can.j2
        rfl
    · obtain rfl : i = 0 := by omega
      rw [if_neg (by simp)]
      have hp1 : (0 : Int) < (rd_T30 l ((0 : Nat) : Int)).f3 := by
        unfold canB numB at hc
        simp only [Bool.and_eq_true, decide_eq_true_eq] at hc
        omega
      rw [htail, show prevRank l 0 = 0 from rfl, decide_eq_true hp1]
      rfl
theorem rcan_f (l : List S30) (hl : l.length ≤ 1000000) : ∃ k, dryrotref16_Can.f k l = some (canAll l) := by
  obtain ⟨k, hk⟩ := can_go l hl l.length 0 (by omega)
  refine ⟨k, ?_⟩
  unfold dryrotref16_Can.f
  exact hk
end Go.Proofs.Ythjfffgddegmoaa.G

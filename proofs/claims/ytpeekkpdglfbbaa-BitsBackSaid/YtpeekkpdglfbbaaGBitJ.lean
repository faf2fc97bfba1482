/- What is taken as a number. -/
import Derived.Test.YtpeekkpdglfbbaaGBitI
namespace Go.Proofs.Ytpeekkpdglfbbaa.PA
set_option linter.unusedVariables false
set_option linter.unusedSimpArgs false
attribute [local instance 10] Classical.propDecidable
open Go.RowKit Go.Proofs.Ytpeekkpdglfbbaa.G Go.Proofs.YtpeekkpdglfbbaaW.PrintWords Go.Proofs.YtpeekkpdglfbbaaW.PrintLast Go.Proofs.YtpeekkpdglfbbaaW.PrintMore

theorem win_one (l : List Int) (p : Nat) : win l p 1 = [bit l p] := by simp [win]
theorem win_cons (l : List Int) (p w : Nat) (h : 0 < w) : win l p w = bit l p :: win l (p + 1) (w - 1) := by
  rw [win_split l p w 1 h, win_one]
  rfl
theorem first_bit (l : List Int) (p w : Nat) (h : 0 < w) : (bit l p = true) ↔ 2 ^ (w - 1) ≤ num (win l p w) := by
  rw [win_cons l p w h, num_cons, win_length]
  have := num_lt (win l (p + 1) (w - 1))
  rw [win_length] at this
  cases bit l p
  · simp; omega
  · simp
theorem widths (c : Int) : (widthN c).toNat = 0 ∨ (widthN c).toNat = 7 ∨ (widthN c).toNat = 12 ∨ (widthN c).toNat = 32 ∨ (widthN c).toNat = 64 := by
  unfold widthN
  repeat' split
  all_goals simp
theorem btakeN {l : List Int} {n : Nat} (h : OkX l n) (hlen : l.length ≤ 1000000) (p c : Nat) (hp : p ≤ n) (hc : c ≤ 64) (k : Nat) (hk : 70 < k) :
    bits_Take.f k l (n : Int) (p : Int) (c : Int) = some (if n - p < c then (0, 3) else (((num (win l p c) : Nat) : Int), 0)) := by
  have hle := h.le
  rw [btake_eq h.bytes (by omega) n p c (by omega) (by omega) k hk]
  unfold takeR
  have hnb : ¬ (¬ (0 ≤ (n : Int) ∧ OkX l (n : Int).toNat) ∨ (c : Int) < 0 ∨ 64 < (c : Int) ∨ (p : Int) < 0 ∨ (n : Int) < p) := by
    rw [Int.toNat_natCast]
    intro h'
    rcases h' with h' | h' | h' | h' | h'
    · exact h' ⟨by omega, h⟩
    all_goals omega
  rw [if_neg hnb, Int.toNat_natCast, Int.toNat_natCast]
  by_cases c1 : n - p < c
  · rw [if_pos c1, if_pos (by omega)]
  · rw [if_neg c1, if_neg (by omega)]
theorem num_lt_w (l : List Int) (p w : Nat) : num (win l p w) < 2 ^ w := by
  have := num_lt (win l p w)
  rwa [win_length] at this
theorem tail_eq {l : List Int} {n : Nat} (h : OkX l n) (hlen : l.length ≤ 1000000) (p : Nat) (hp : p ≤ n) (c : Int) (k : Nat) (hk : 80 < k) : bits_TakeInt.j2 k (p : Int) c l (n : Int) = some (tailI l n p c) := by
  obtain ⟨k, rfl⟩ : ∃ k', k = k' + 1 := ⟨k - 1, by omega⟩
  have hle := h.le
  have hwr := width_le c
  have hws := widths c
  rw [bits_TakeInt.j2, width_eq, Option.bind_some]
  unfold tailI
  obtain ⟨w, hw⟩ := Int.eq_ofNat_of_zero_le hwr.1
  rw [hw] at hws ⊢
  rw [Int.toNat_natCast] at hws ⊢
  rw [btakeN h hlen p w hp (by omega) k (by omega), Option.bind_some]
  have hx := num_lt_w l p w
  by_cases c1 : n - p < w
  · rw [if_pos c1, if_neg (by decide), if_pos (show (n : Int) - p < w by omega)]
  · rw [if_neg c1]
    simp only [if_true]
    rw [if_neg (show ¬ (n : Int) - p < w by omega)]
    have hpw : wrap64 ((p : Int) + (w : Int)) = ((p + w : Nat) : Int) := w64add (by omega)
    rw [hpw]
    clear hpw
    by_cases c2 : (w : Int) > 0
    · rw [if_pos c2, sgn_class hws hx (by omega), class_ge _ k (by omega), Option.bind_some]
      rw [if_pos (by rcases hws with h | h | h | h | h <;> rw [h] <;> decide +kernel)]
      by_cases c3 : classN (sgn (num (win l p w)) w) = c
      · rw [if_pos c3, if_pos c3]
      · rw [if_neg c3, if_neg c3]
    · rw [if_neg c2]
      have : w = 0 := by omega
      subst this
      rw [show num (win l p 0) = 0 from rfl, show wrap64 ((0 : Nat) : Int) = 0 by decide +kernel, class_ge _ k (by omega), Option.bind_some, show sgn 0 0 = 0 by decide]
      by_cases c3 : classN 0 = c
      · rw [if_pos c3, if_pos c3]
      · rw [if_neg c3, if_neg c3]
theorem head_eq {l : List Int} {n : Nat} (h : OkX l n) (hlen : l.length ≤ 1000000) : ∀ (m p k : Nat), p ≤ n → m ≤ 4 → 90 + m < k → bits_TakeInt.l0 k (p : Int) (4 - (m : Int)) l (n : Int) = some (headI l n m p) := by
  intro m
  induction m with
  | zero =>
    intro p k hp hm hk
    obtain ⟨k, rfl⟩ : ∃ k', k = k' + 1 := ⟨k - 1, by omega⟩
    rw [bits_TakeInt.l0, if_neg (by omega), headI, show (4 - ((0 : Nat) : Int)) = 4 from rfl]
    exact tail_eq h hlen p hp 4 k (by omega)
  | succ m ih =>
    intro p k hp hm hk
    obtain ⟨k, rfl⟩ : ∃ k', k = k' + 1 := ⟨k - 1, by omega⟩
    have hle := h.le
    rw [bits_TakeInt.l0, if_pos (by omega), headI]
    have ht := btakeN h hlen p 1 hp (by decide) k (by omega)
    rw [show ((1 : Nat) : Int) = 1 from rfl] at ht
    rw [ht, Option.bind_some]
    by_cases c1 : n ≤ p
    · rw [if_pos (show n - p < 1 by omega), if_pos c1]
      rfl
    · rw [if_neg (show ¬ n - p < 1 by omega), if_neg c1]
      simp only [if_true]
      have e1 : wrap64 ((p : Int) + 1) = ((p + 1 : Nat) : Int) := w64add (b := 1) (by omega)
      have e2 : wrap64 (4 - ((m + 1 : Nat) : Int) + 1) = 4 - (m : Int) := by rw [show (4 - ((m + 1 : Nat) : Int) + 1) = 4 - (m : Int) by omega]; exact w64 (by omega) (by omega)
      rw [e1, e2, win_one]
      clear e1 e2
      cases hb : bit l p
      · rw [show num [false] = 0 from rfl, if_pos (by rfl), if_neg (by decide), show (4 - ((m + 1 : Nat) : Int)) = 3 - (m : Int) by omega]
        exact tail_eq h hlen (p + 1) (by omega) _ k (by omega)
      · rw [show num [true] = 1 from rfl, if_neg (by decide), if_pos rfl]
        exact ih (p + 1) k (by omega) (by omega) (by omega)
/-- the number at a place, or the error -/
noncomputable def takeI (l : List Int) (N p : Int) : Int × Int × Int := if ¬ (0 ≤ N ∧ OkX l N.toNat) ∨ p < 0 ∨ N < p then (0, 0, 1) else headI l N.toNat 4 p.toNat
theorem takeInt_eq {l : List Int} (hl : OkL l) (hlen : l.length ≤ 1000000) (N p : Int) (h1 : -9223372036854775808 ≤ N) (h2 : N ≤ 9223372036854775807) (k : Nat) (hk : 100 < k) : bits_TakeInt.f k l N p = some (takeI l N p) := by
  unfold bits_TakeInt.f takeI
  obtain ⟨k, rfl⟩ : ∃ k', k = k' + 1 := ⟨k - 1, by omega⟩
  rw [can_eq hl (by omega) N h1 h2, Option.bind_some]
  by_cases hV : 0 ≤ N ∧ OkX l N.toNat
  · rw [decide_eq_true hV, if_pos rfl]
    by_cases c3 : p < 0
    · rw [if_pos c3, if_pos (.inr (.inl c3)), bits_TakeInt.j0, if_pos rfl]
    rw [if_neg c3]
    by_cases c4 : p > N
    · rw [decide_eq_true c4, if_pos (.inr (.inr c4)), bits_TakeInt.j0, if_pos rfl]
    have hnb : ¬ (¬ (0 ≤ N ∧ OkX l N.toNat) ∨ p < 0 ∨ N < p) := by intro h; rcases h with h | h | h; exact h hV; all_goals omega
    rw [if_neg hnb, decide_eq_false c4, bits_TakeInt.j0, if_neg (by decide)]
    obtain ⟨q, rfl⟩ := Int.eq_ofNat_of_zero_le (by omega : 0 ≤ p)
    obtain ⟨n, rfl⟩ := Int.eq_ofNat_of_zero_le hV.1
    rw [Int.toNat_natCast] at hV ⊢
    rw [Int.toNat_natCast]
    exact head_eq hV.2 hlen 4 q k (by omega) (by omega) (by omega)
  · rw [decide_eq_false hV, if_neg (by decide), if_pos (.inl hV), bits_TakeInt.j0, if_pos rfl]

/-! ### the reference -/
theorem table5 (c : Int) (h0 : 0 ≤ c) (h4 : c ≤ 4) : rd [0, 7, 12, 32, 64] c = widthN c := by
  have : c = 0 ∨ c = 1 ∨ c = 2 ∨ c = 3 ∨ c = 4 := by omega
  rcases this with h | h | h | h | h <;> subst h <;> rfl
theorem rd_Bs (l : List Int) (n p : Nat) (h : p < n) : rdOf false (Bs l n) (p : Int) = bit l p := by
  unfold rdOf
  rw [Int.toNat_natCast, List.getD_eq_getElem?_getD, List.getElem?_eq_getElem (by simpa using h), Option.getD_some, Bs_get _ _ _ h]
theorem j4_true (p : Nat) (c : Int) (w x k : Nat) (hw : w = 7 ∨ w = 12 ∨ w = 32) (hx : x < 2 ^ w) (hb : 2 ^ (w - 1) ≤ x) (hp : p < 1000000000) (hk : 10 < k) :
    dryrotref02_TakeInt.j4 k (p : Int) c (w : Int) (wrap64 (x : Int)) true = some (if classN (sgn x w) = c then (sgn x w, ((p + w : Nat) : Int), 0) else (0, 0, 5)) := by
  obtain ⟨k, rfl⟩ : ∃ k', k = k' + 1 := ⟨k - 1, by omega⟩
  have hs : wrap64 (wrap64 (x : Int) - shl .i64 1 (w : Int)) = sgn x w := by
    have h0 : 0 < w := by omega
    unfold sgn
    rw [if_pos ⟨h0, hb⟩]
    rcases hw with h | h | h <;> subst h
    · rw [show shl .i64 1 ((7 : Nat) : Int) = 128 by decide +kernel]
      simp only [wrap64]; simp at hx ⊢; omega
    · rw [show shl .i64 1 ((12 : Nat) : Int) = 4096 by decide +kernel]
      simp only [wrap64]; simp at hx ⊢; omega
    · rw [show shl .i64 1 ((32 : Nat) : Int) = 4294967296 by decide +kernel]
      simp only [wrap64]; simp at hx ⊢; omega
  have hpw : wrap64 ((p : Int) + (w : Int)) = ((p + w : Nat) : Int) := w64add (by clear hs; omega)
  rw [dryrotref02_TakeInt.j4, if_pos rfl, if_pos (Int.natCast_nonneg _), hs, rclass_ge _ k (by clear hs hpw; omega), Option.bind_some, hpw]
  clear hs hpw
  by_cases c3 : classN (sgn x w) = c
  · rw [if_pos c3, if_pos c3]
  · rw [if_neg c3, if_neg c3]
theorem j4_false (p : Nat) (c : Int) (w x k : Nat) (hs : wrap64 (x : Int) = sgn x w) (hw : w ≤ 64) (hp : p < 1000000000) (hk : 10 < k) :
    dryrotref02_TakeInt.j4 k (p : Int) c (w : Int) (wrap64 (x : Int)) false = some (if classN (sgn x w) = c then (sgn x w, ((p + w : Nat) : Int), 0) else (0, 0, 5)) := by
  obtain ⟨k, rfl⟩ : ∃ k', k = k' + 1 := ⟨k - 1, by omega⟩
  have hpw : wrap64 ((p : Int) + (w : Int)) = ((p + w : Nat) : Int) := w64add (by clear hs; omega)
  rw [dryrotref02_TakeInt.j4, if_neg (by decide), hs, rclass_ge _ k (by clear hs hpw; omega), Option.bind_some, hpw]
  clear hs hpw
  by_cases c3 : classN (sgn x w) = c
  · rw [if_pos c3, if_pos c3]
  · rw [if_neg c3, if_neg c3]
theorem sgn_small {x w : Nat} (hw : w = 0 ∨ w = 7 ∨ w = 12 ∨ w = 32) (hb : x < 2 ^ w) (hn : ¬ (0 < w ∧ 2 ^ (w - 1) ≤ x)) : wrap64 (x : Int) = sgn x w := by
  unfold sgn
  rw [if_neg hn]
  have : 2 ^ w ≤ 2 ^ 32 := Nat.pow_le_pow_right (by decide) (by omega)
  exact w64n (by omega)
theorem sgn_64 {x : Nat} (hb : x < 18446744073709551616) : wrap64 (x : Int) = sgn x 64 := by
  unfold sgn wrap64
  simp
  split <;> omega
theorem j3_eq {l : List Int} {n : Nat} (h : OkX l n) (hlen : l.length ≤ 1000000) (p : Nat) (hp : p ≤ n) (c : Int) (h0 : 0 ≤ c) (h4 : c ≤ 4) (k : Nat) (hk : 80 < k) : dryrotref02_TakeInt.j3 k (p : Int) (Bs l n) c = some (tailI l n p c) := by
  obtain ⟨k, rfl⟩ : ∃ k', k = k' + 1 := ⟨k - 1, by omega⟩
  have hle := h.le
  have hwr := width_le c
  have hws := widths c
  rw [dryrotref02_TakeInt.j3]
  simp only [Option.bind_some, table5 c h0 h4]
  rw [if_pos h0, if_pos (show c < (([0, 7, 12, 32, 64] : List Int).length : Int) by simp; omega)]
  unfold tailI
  obtain ⟨w, hw⟩ := Int.eq_ofNat_of_zero_le hwr.1
  rw [hw] at hws ⊢
  rw [Int.toNat_natCast] at hws ⊢
  have hx := num_lt_w l p w
  have hnp : wrap64 ((n : Int) - (p : Int)) = (n : Int) - (p : Int) := w64 (by omega) (by omega)
  rw [Bs_length, hnp]
  clear hnp
  by_cases c1 : (n : Int) - p < w
  · rw [if_pos c1, if_pos c1]
  · rw [if_neg c1, if_neg c1, rtake_eq _ (by simp; omega) p w k (by simp; omega) (by omega) (by omega), Option.bind_some, ← win_Bs l n p w (by omega)]
    by_cases c2 : (w : Int) > 0
    · rw [if_pos c2]
      by_cases c3 : (w : Int) < 64
      · rw [if_pos c3, if_pos (by omega), if_pos (by omega), rd_Bs l n p (by omega)]
        have hfb := first_bit l p w (by omega)
        cases hb : bit l p
        · refine j4_false p c w _ k (sgn_small (by omega) hx ?_) (by omega) (by omega) (by omega)
          intro hh
          have := hfb.2 hh.2
          rw [hb] at this
          cases this
        · exact j4_true p c w _ k (by omega) hx (hfb.1 hb) (by omega) (by omega)
      · rw [if_neg c3]
        have : w = 64 := by omega
        subst this
        exact j4_false p c 64 _ k (sgn_64 (Nat.lt_of_lt_of_le hx (by decide))) (by omega) (by omega) (by omega)
    · rw [if_neg c2]
      have : w = 0 := by omega
      subst this
      exact j4_false p c 0 _ k (sgn_small (by omega) hx (by omega)) (by omega) (by omega) (by omega)
theorem rhead_eq {l : List Int} {n : Nat} (h : OkX l n) (hlen : l.length ≤ 1000000) : ∀ (m p k : Nat), p ≤ n → m ≤ 4 → 90 + m < k → dryrotref02_TakeInt.l0 k (p : Int) (Bs l n) (4 - (m : Int)) = some (headI l n m p) := by
  intro m
  induction m with
  | zero =>
    intro p k hp hm hk
    obtain ⟨k, rfl⟩ : ∃ k', k = k' + 2 := ⟨k - 2, by omega⟩
    rw [dryrotref02_TakeInt.l0, if_neg (by omega), dryrotref02_TakeInt.j2, if_neg (by omega), headI, show (4 - ((0 : Nat) : Int)) = 4 from rfl]
    exact j3_eq h hlen p hp 4 (by decide) (by decide) k (by omega)
  | succ m ih =>
    intro p k hp hm hk
    obtain ⟨k, rfl⟩ : ∃ k', k = k' + 2 := ⟨k - 2, by omega⟩
    have hle := h.le
    rw [dryrotref02_TakeInt.l0, if_pos (by omega), headI, Bs_length]
    by_cases c1 : n ≤ p
    · rw [if_neg (by omega), if_pos c1, dryrotref02_TakeInt.j2, if_pos (by omega), Bs_length, if_pos (by omega)]
    · rw [if_pos (by omega), if_pos (by omega), if_neg c1, rd_Bs l n p (by omega)]
      have e1 : wrap64 ((p : Int) + 1) = ((p + 1 : Nat) : Int) := w64add (b := 1) (by omega)
      have e2 : wrap64 (4 - ((m + 1 : Nat) : Int) + 1) = 4 - (m : Int) := by rw [show (4 - ((m + 1 : Nat) : Int) + 1) = 4 - (m : Int) by omega]; exact w64 (by omega) (by omega)
      rw [e1, e2]
      cases hb : bit l p
      · rw [if_neg (by decide), if_neg (by decide), dryrotref02_TakeInt.j2, if_pos (by clear e1 e2; omega), Bs_length, if_neg (by clear e1 e2; omega), e1, show (4 - ((m + 1 : Nat) : Int)) = 3 - (m : Int) by clear e1 e2; omega]
        clear e1 e2
        exact j3_eq h hlen (p + 1) (by omega) _ (by omega) (by omega) k (by omega)
      · rw [if_pos rfl, if_pos rfl]
        clear e1 e2
        exact ih (p + 1) (k + 1) (by omega) (by omega) (by omega)
theorem rtakeInt_eq {l : List Int} (hl : OkL l) (hlen : l.length ≤ 1000000) (N p : Int) (h1 : -9223372036854775808 ≤ N) (h2 : N ≤ 9223372036854775807) (k : Nat) (hk : 8 * l.length + 200 < k) : dryrotref02_TakeInt.f k l N p = some (takeI l N p) := by
  unfold dryrotref02_TakeInt.f takeI
  obtain ⟨k, rfl⟩ : ∃ k', k = k' + 1 := ⟨k - 1, by omega⟩
  rw [list_eq hl (by omega) N h1 h2 _ (by omega)]
  by_cases hV : 0 ≤ N ∧ OkX l N.toNat
  · rw [if_pos hV, Option.bind_some]
    simp only [Bs_length]
    have hle := hV.2.le
    have hN : ((N.toNat : Nat) : Int) = N := by omega
    rw [if_pos trivial, hN]
    by_cases c3 : p < 0
    · rw [if_pos c3, if_pos (.inr (.inl c3)), dryrotref02_TakeInt.j0, if_pos rfl]
    rw [if_neg c3]
    by_cases c4 : p > N
    · rw [decide_eq_true c4, if_pos (.inr (.inr c4)), dryrotref02_TakeInt.j0, if_pos rfl]
    have hnb : ¬ (¬ (0 ≤ N ∧ OkX l N.toNat) ∨ p < 0 ∨ N < p) := by intro h; rcases h with h | h | h; exact h hV; all_goals omega
    rw [if_neg hnb, decide_eq_false c4, dryrotref02_TakeInt.j0, if_neg (by decide)]
    obtain ⟨q, rfl⟩ := Int.eq_ofNat_of_zero_le (by omega : 0 ≤ p)
    rw [Int.toNat_natCast]
    exact rhead_eq hV.2 hlen 4 q k (by omega) (by omega) (by omega)
  · rw [if_neg hV, Option.bind_some]
    simp only [Bool.false_eq_true, if_false]
    rw [dryrotref02_TakeInt.j0, if_pos rfl, if_pos (.inl hV)]
end Go.Proofs.Ytpeekkpdglfbbaa.PA

/- What the functions over bits compute. -/
import Derived.Test.YtpeekkpdglfbbaaGBitM
import Derived.Test.YtpeekkpdglfbbaaPPut
import Derived.Test.YtpeekkpdglfbbaaPPutInt
import Derived.Test.YtpeekkpdglfbbaaPAf12
import Derived.Test.YtpeekkpdglfbbaaPAf15
import Derived.Test.YtpeekkpdglfbbaaPAf17
import Derived.Test.YtpeekkpdglfbbaaPAf19
import Derived.Test.YtpeekkpdglfbbaaPAf21
import Derived.Test.YtpeekkpdglfbbaaPAf20
namespace Go.Proofs.Ytpeekkpdglfbbaa.PA
open Go.RowKit Go.Proofs.Ytpeekkpdglfbbaa.G Go.Proofs.YtpeekkpdglfbbaaW.PrintWords Go.Proofs.YtpeekkpdglfbbaaW.PrintLast Go.Proofs.YtpeekkpdglfbbaaW.PrintMore
set_option linter.unusedVariables false
set_option linter.unusedSimpArgs false
attribute [local instance 10] Classical.propDecidable

theorem td8 (i : Nat) : Int.tdiv (i : Int) 8 = ((i / 8 : Nat) : Int) := rfl
theorem tm8 (i : Nat) : Int.tmod (i : Int) 8 = ((i % 8 : Nat) : Int) := rfl
theorem w64n {n : Nat} (h : n ≤ 9000000000000000000) : wrap64 (n : Int) = (n : Int) := w64 (by omega) (by omega)
theorem rd_nat (l : List Int) (i : Nat) : rd l (i : Int) = l.getD i 0 := by unfold rd; rw [Int.toNat_natCast]

theorem bit_and {l : List Int} (hl : OkL l) (i : Nat) : (Go.bits .and .u8 (rd l ((i / 8 : Nat) : Int)) (shr .u8 128 ((i % 8 : Nat) : Int)) != 0) = bit l i := by
  rw [rd_nat]
  have hb := hl.at (i / 8)
  have hs : shr .u8 128 ((i % 8 : Nat) : Int) = ((2 ^ (7 - i % 8) : Nat) : Int) := by
    have : i % 8 < 8 := Nat.mod_lt _ (by decide)
    generalize i % 8 = j at this
    have hj : j = 0 ∨ j = 1 ∨ j = 2 ∨ j = 3 ∨ j = 4 ∨ j = 5 ∨ j = 6 ∨ j = 7 := by omega
    rcases hj with h | h | h | h | h | h | h | h <;> subst h <;> decide
  have hp : 2 ^ (7 - i % 8) < 256 := Nat.lt_of_le_of_lt (Nat.pow_le_pow_right (by decide) (show 7 - i % 8 ≤ 7 by omega)) (by decide)
  rw [hs, u8_and _ _ hb.1 hb.2 (Int.natCast_nonneg _) (show ((2 ^ (7 - i % 8) : Nat) : Int) < ((256 : Nat) : Int) from Int.ofNat_lt.2 hp), Int.toNat_natCast, nat_bit]
  unfold bit
  generalize (l.getD (i / 8) 0).toNat = x
  rw [Nat.testBit_eq_decide_div_mod_eq]
  have h2 : x / 2 ^ (7 - i % 8) % 2 = 0 ∨ x / 2 ^ (7 - i % 8) % 2 = 1 := by omega
  rcases h2 with h2 | h2
  · rw [h2]; simp
  · rw [h2]
    have : (0 : Nat) < 2 ^ (7 - i % 8) := Nat.two_pow_pos _
    have h3 := Nat.ne_of_gt this
    simp
    exact_mod_cast h3

/-! ### the list -/
def tailB (l : List Int) (i : Nat) : Bool := (List.range (8 * l.length)).all fun j => decide (j < i) || !(bit l j)
theorem list_loop {l : List Int} (hl : OkL l) (hlen : l.length ≤ 1000000000) (n : Nat) (hn : n ≤ 8 * l.length) : ∀ (m i k : Nat) (acc : List Bool), i + m = 8 * l.length → m < k → acc.length ≤ i →
    dryrotref02_list.l0 k acc ((8 * l.length : Nat) : Int) (i : Int) l (n : Int) = if (∀ j, max i n ≤ j → j < 8 * l.length → bit l j = false) then some (acc ++ win l i (n - i), true) else some ([], false) := by
  intro m
  induction m with
  | zero =>
    intro i k acc hi hk ha
    obtain ⟨k, rfl⟩ : ∃ k', k = k' + 1 := ⟨k - 1, by omega⟩
    rw [dryrotref02_list.l0, if_neg (by omega), if_pos (by intro j h1 h2; omega), show n - i = 0 by omega]
    simp [win]
  | succ m ih =>
    intro i k acc hi hk ha
    obtain ⟨k, rfl⟩ : ∃ k', k = k' + 1 := ⟨k - 1, by omega⟩
    have e1 : wrap64 (Int.tdiv (i : Int) 8) = ((i / 8 : Nat) : Int) := by rw [td8]; exact w64n (by omega)
    have e2 : wrap64 ((i : Int) + 1) = ((i + 1 : Nat) : Int) := by rw [show ((i : Int) + 1) = ((i + 1 : Nat) : Int) by omega]; exact w64n (by omega)
    rw [dryrotref02_list.l0, if_pos (by omega), e1, e2, tm8, if_pos (by omega), if_pos (by omega), if_pos (by omega)]
    by_cases hin : i < n
    · rw [if_pos (by omega), if_pos (by omega), bit_and hl, ih (i + 1) k _ (by omega) (by omega) (by simp; omega)]
      have e3 : max (i + 1) n = max i n := by omega
      rw [e3]
      have e4 : acc ++ [bit l i] ++ win l (i + 1) (n - (i + 1)) = acc ++ win l i (n - i) := by
        rw [win_split l i (n - i) 1 (by omega), List.append_assoc, show n - i - 1 = n - (i + 1) by omega]
        rfl
      rw [e4]
    · rw [if_neg (by omega)]
      have hb := bit_and hl i
      by_cases h0 : Go.bits .and .u8 (rd l ((i / 8 : Nat) : Int)) (shr .u8 128 ((i % 8 : Nat) : Int)) = 0
      · rw [if_pos h0, ih (i + 1) k _ (by omega) (by omega) (by omega), show n - (i + 1) = 0 by omega, show n - i = 0 by omega]
        have hbf : bit l i = false := by rw [← hb, h0]; rfl
        have e3 : (∀ j, max (i + 1) n ≤ j → j < 8 * l.length → bit l j = false) ↔ (∀ j, max i n ≤ j → j < 8 * l.length → bit l j = false) := by
          constructor
          · intro h j h1 h2
            by_cases hj : j = i
            · rw [hj]; exact hbf
            · exact h j (by omega) h2
          · intro h j h1 h2
            exact h j (by omega) h2
        simp only [e3]
        rw [show win l (i + 1) 0 = win l i 0 from rfl]
      · rw [if_neg h0]
        have hbt : bit l i = true := by rw [← hb]; simpa using h0
        rw [if_neg]
        intro h
        have := h i (by omega) (by omega)
        rw [hbt] at this
        cases this

theorem list_j0 {l : List Int} (hl : OkL l) (hlen : l.length ≤ 1000000000) (n : Nat) (hn : n ≤ 8 * l.length) (k : Nat) (hk : 8 * l.length + 1 < k) :
    dryrotref02_list.j0 k false l (n : Int) = if (∀ j, n ≤ j → j < 8 * l.length → bit l j = false) then some (Bs l n, true) else some ([], false) := by
  obtain ⟨k, rfl⟩ : ∃ k', k = k' + 1 := ⟨k - 1, by omega⟩
  rw [dryrotref02_list.j0, if_neg (by decide), show wrap64 (8 * (l.length : Int)) = ((8 * l.length : Nat) : Int) by rw [show (8 * (l.length : Int)) = ((8 * l.length : Nat) : Int) by omega]; exact w64n (by omega)]
  have := list_loop hl hlen n hn (8 * l.length) 0 k [] (by omega) (by omega) (by simp)
  rw [show ((0 : Nat) : Int) = 0 from rfl] at this
  rw [this, Nat.max_eq_right (Nat.zero_le n)]
  rfl
theorem list_j0t (l : List Int) (N : Int) (k : Nat) (hk : 0 < k) : dryrotref02_list.j0 k true l N = some ([], false) := by
  obtain ⟨k, rfl⟩ : ∃ k', k = k' + 1 := ⟨k - 1, by omega⟩
  rw [dryrotref02_list.j0, if_pos rfl]
theorem list_eq {l : List Int} (hl : OkL l) (hlen : l.length ≤ 1000000000) (N : Int) (h1 : -9223372036854775808 ≤ N) (h2 : N ≤ 9223372036854775807) (k : Nat) (hk : 8 * l.length + 1 < k) :
    dryrotref02_list.f k l N = if 0 ≤ N ∧ OkX l N.toNat then some (Bs l N.toNat, true) else some ([], false) := by
  unfold dryrotref02_list.f
  by_cases h0 : N < 0
  · rw [if_pos h0, if_neg (by intro h; omega), list_j0t _ _ _ (by omega)]
  · rw [if_neg h0]
    obtain ⟨n, rfl⟩ := Int.eq_ofNat_of_zero_le (by omega : 0 ≤ N)
    have e1 : wrap64 (Int.tdiv (n : Int) 8) = ((n / 8 : Nat) : Int) := by rw [td8]; exact w64 (by omega) (by omega)
    have e2 : wrap64 (((n / 8 : Nat) : Int) + 1) = ((n / 8 + 1 : Nat) : Int) := by rw [show (((n / 8 : Nat) : Int) + 1) = ((n / 8 + 1 : Nat) : Int) by omega]; exact w64 (by omega) (by omega)
    rw [e1, e2, tm8, Int.toNat_natCast]
    have good : ∀ (hn : n ≤ 8 * l.length) (hn8 : 8 * l.length < n + 8), dryrotref02_list.j0 k false l (n : Int) = if 0 ≤ (n : Int) ∧ OkX l n then some (Bs l n, true) else some ([], false) := by
      intro hn hn8
      rw [list_j0 hl hlen n hn k hk]
      have : (∀ j, n ≤ j → j < 8 * l.length → bit l j = false) ↔ (0 ≤ (n : Int) ∧ OkX l n) := ⟨fun h => ⟨by omega, hl, hn, hn8, h⟩, fun h => h.2.tail⟩
      simp only [this]
    have bad : ¬ (n ≤ 8 * l.length ∧ 8 * l.length < n + 8) → dryrotref02_list.j0 k true l (n : Int) = if 0 ≤ (n : Int) ∧ OkX l n then some (Bs l n, true) else some ([], false) := by
      intro h
      rw [list_j0t _ _ _ (by omega), if_neg]
      intro h'
      exact h ⟨h'.2.le, h'.2.near⟩
    by_cases c1 : ((n / 8 : Nat) : Int) > (l.length : Int)
    · rw [if_pos c1]; exact bad (by omega)
    · rw [if_neg c1]
      by_cases c2 : ((n % 8 : Nat) : Int) = 0
      · rw [if_pos c2]
        by_cases c3 : (l.length : Int) > ((n / 8 + 1 : Nat) : Int)
        · rw [if_pos c3]; exact bad (by omega)
        · rw [if_neg c3]
          by_cases c4 : (l.length : Int) = ((n / 8 : Nat) : Int)
          · rw [show ((l.length : Int) != ((n / 8 : Nat) : Int)) = false by simp [c4]]
            exact good (by omega) (by omega)
          · rw [show ((l.length : Int) != ((n / 8 : Nat) : Int)) = true by simpa using c4]
            exact bad (by omega)
      · rw [if_neg c2]
        by_cases c3 : ((n / 8 : Nat) : Int) ≥ (l.length : Int)
        · rw [if_pos c3]; exact bad (by omega)
        · rw [if_neg c3]
          by_cases c4 : (l.length : Int) > ((n / 8 + 1 : Nat) : Int)
          · rw [if_pos c4]; exact bad (by omega)
          · rw [if_neg c4]; exact good (by omega) (by omega)

/-! ### whether bits may be -/
theorem mask_zero (x t : Nat) : (x &&& (2 ^ t - 1) = 0) ↔ ∀ j, j < t → x.testBit j = false := by
  constructor
  · intro h j hj
    have : (x &&& (2 ^ t - 1)).testBit j = false := by rw [h]; exact Nat.zero_testBit j
    rw [Nat.testBit_and, Nat.testBit_two_pow_sub_one] at this
    simpa [hj] using this
  · intro h
    apply Nat.eq_of_testBit_eq
    intro j
    rw [Nat.testBit_and, Nat.testBit_two_pow_sub_one, Nat.zero_testBit]
    by_cases hj : j < t
    · rw [h j hj]; rfl
    · simp [hj]
theorem can_eq {l : List Int} (hl : OkL l) (hlen : l.length ≤ 1000000000) (N : Int) (h1 : -9223372036854775808 ≤ N) (h2 : N ≤ 9223372036854775807) :
    bits_Can.f l N = some (decide (0 ≤ N ∧ OkX l N.toNat)) := by
  unfold bits_Can.f
  have e0 : wrap64 (8 * (l.length : Int)) = ((8 * l.length : Nat) : Int) := by rw [show (8 * (l.length : Int)) = ((8 * l.length : Nat) : Int) by omega]; exact w64n (by omega)
  rw [e0]
  by_cases c1 : N < 0
  · rw [if_pos c1, decide_eq_false (by intro h; omega)]
  rw [if_neg c1]
  obtain ⟨n, rfl⟩ := Int.eq_ofNat_of_zero_le (by omega : 0 ≤ N)
  rw [Int.toNat_natCast]
  by_cases c2 : (n : Int) > ((8 * l.length : Nat) : Int)
  · rw [if_pos c2, decide_eq_false (by intro h; have := h.2.le; omega)]
  rw [if_neg c2]
  have e1 : wrap64 (((8 * l.length : Nat) : Int) - (n : Int)) = ((8 * l.length - n : Nat) : Int) := by rw [show (((8 * l.length : Nat) : Int) - (n : Int)) = ((8 * l.length - n : Nat) : Int) by omega]; exact w64n (by omega)
  rw [e1]
  by_cases c3 : ((8 * l.length - n : Nat) : Int) > 7
  · rw [if_pos c3, decide_eq_false (by intro h; have := h.2.near; omega)]
  rw [if_neg c3]
  by_cases c4 : ((8 * l.length - n : Nat) : Int) = 0
  · rw [if_pos c4, decide_eq_true ⟨by omega, hl, by omega, by omega, by intro i h1 h2; omega⟩]
  rw [if_neg c4]
  have e2 : wrap64 ((l.length : Int) - 1) = ((l.length - 1 : Nat) : Int) := by rw [show ((l.length : Int) - 1) = ((l.length - 1 : Nat) : Int) by omega]; exact w64n (by omega)
  rw [e2, if_pos (by omega), if_pos (by omega), if_pos (by omega), rd_nat]
  have hb := hl.at (l.length - 1)
  have ht : 8 * l.length - n < 8 := by omega
  have hs : (shl .u8 1 ((8 * l.length - n : Nat) : Int) - 1) % 256 = ((2 ^ (8 * l.length - n) - 1 : Nat) : Int) := by
    generalize 8 * l.length - n = j at ht
    have hj : j = 0 ∨ j = 1 ∨ j = 2 ∨ j = 3 ∨ j = 4 ∨ j = 5 ∨ j = 6 ∨ j = 7 := by omega
    rcases hj with h | h | h | h | h | h | h | h <;> subst h <;> decide +kernel
  have hp : 2 ^ (8 * l.length - n) ≤ 128 := Nat.le_trans (Nat.pow_le_pow_right (n := 2) (by decide) (show 8 * l.length - n ≤ 7 by omega)) (by decide)
  rw [hs, u8_and _ _ hb.1 hb.2 (by omega) (by omega), Int.toNat_natCast]
  congr 1
  have key : ((l.getD (l.length - 1) 0).toNat &&& (2 ^ (8 * l.length - n) - 1) = 0) ↔ (0 ≤ (n : Int) ∧ OkX l n) := by
    rw [mask_zero]
    constructor
    · intro h
      refine ⟨by omega, hl, by omega, by omega, ?_⟩
      intro i hi1 hi2
      unfold bit
      rw [show i / 8 = l.length - 1 by omega]
      exact h _ (by omega)
    · intro h j hj
      have := h.2.tail (8 * l.length - 1 - j) (by omega) (by omega)
      unfold bit at this
      rw [show (8 * l.length - 1 - j) / 8 = l.length - 1 by omega, show 7 - (8 * l.length - 1 - j) % 8 = j by omega] at this
      exact this
  by_cases h : 0 ≤ (n : Int) ∧ OkX l n
  · rw [decide_eq_true h, key.2 h]; rfl
  · rw [decide_eq_false h]
    have := mt key.1 h
    simp only [beq_eq_false_iff_ne, ne_eq]
    omega

/-! ### putting -/
theorem shl1 (T : Nat) (h : T ≤ 8) : IntKind.u64.wrap (shl .u64 1 (T : Int) - 1) = ((2 ^ T - 1 : Nat) : Int) := by
  have hj : T = 0 ∨ T = 1 ∨ T = 2 ∨ T = 3 ∨ T = 4 ∨ T = 5 ∨ T = 6 ∨ T = 7 ∨ T = 8 := by omega
  rcases hj with h | h | h | h | h | h | h | h | h <;> subst h <;> decide +kernel
theorem shr_nat (k : IntKind) (x j : Nat) (hj : j ≤ k.bits) : shr k (x : Int) (j : Int) = ((x / 2 ^ j : Nat) : Int) := by
  unfold shr
  rw [Int.toNat_natCast, Nat.min_eq_left hj]
  push_cast
  rfl
theorem u8wrap {x : Nat} (h : x < 256) : IntKind.u8.wrap (x : Int) = (x : Int) := by rw [IntKind.wrap_u8']; omega
theorem u64wrap {x : Nat} (h : x < 18446744073709551616) : IntKind.u64.wrap (x : Int) = (x : Int) := by simp [IntKind.wrap, IntKind.bits, IntKind.signed]; omega
theorem mod_pow_lt (x T : Nat) (h : T ≤ 8) : x % 2 ^ T < 256 := Nat.lt_of_lt_of_le (Nat.mod_lt _ (Nat.two_pow_pos _)) (Nat.le_trans (Nat.pow_le_pow_right (n := 2) (by decide) h) (by decide))
theorem addT_nat (n c : Nat) : addT (n : Int) (c : Int) = ((min c (8 - n % 8) : Nat) : Int) := by
  unfold addT
  split <;> omega
theorem addP_nat (n v c : Nat) (hv : v < 18446744073709551616) (hc : c ≤ 64) : addP (n : Int) (v : Int) (c : Int) = ((v / 2 ^ (c - min c (8 - n % 8)) % 2 ^ (min c (8 - n % 8)) : Nat) : Int) := by
  unfold addP
  rw [addT_nat]
  generalize hT : min c (8 - n % 8) = T
  have hT8 : T ≤ 8 := by omega
  have hd : v / 2 ^ (c - T) ≤ v := Nat.div_le_self _ _
  rw [show ((c : Int) - (T : Int)) = ((c - T : Nat) : Int) by omega, shr_nat _ _ _ (by simp [IntKind.bits]; omega), shl1 T hT8, u64_and _ _ (Int.natCast_nonneg _) (by omega) (Int.natCast_nonneg _) ?_, Int.toNat_natCast, Int.toNat_natCast, Nat.and_two_pow_sub_one_eq_mod]
  · have := mod_pow_lt (v / 2 ^ (c - T)) T hT8
    omega
  · have : 2 ^ T ≤ 256 := Nat.le_trans (Nat.pow_le_pow_right (n := 2) (by decide) hT8) (by decide)
    omega
theorem addS_nat {l : List Int} {n : Nat} (h : OkX l n) (v c : Nat) (hv : v < 18446744073709551616) (hc0 : 0 < c) (hc : c ≤ 64) :
    addS l (n : Int) (v : Int) (c : Int) = orAt (addZ l n) (n / 8) ((v / 2 ^ (c - min c (8 - n % 8)) % 2 ^ (min c (8 - n % 8))) * 2 ^ (8 - n % 8 - min c (8 - n % 8))) := by
  have e : addL l (n : Int) = addZ l n := by
    unfold addL addZ
    by_cases h0 : n % 8 = 0
    · rw [if_pos h0, if_pos (by omega)]
    · rw [if_neg h0, if_neg (by omega)]
  unfold addS orAt
  rw [e, addZ_len h, Nat.add_sub_cancel]
  congr 1
  have hzok : OkL (addZ l n) := by
    unfold addZ
    split
    · intro x hx
      rcases List.mem_append.1 hx with hx | hx
      · exact h.bytes x hx
      · simp at hx; subst hx; decide
    · exact h.bytes
  have hb := hzok.at (n / 8)
  generalize (addZ l n).getD (n / 8) 0 = b at hb
  unfold addB
  rw [addP_nat n v c hv hc, addT_nat]
  generalize hT : min c (8 - n % 8) = T
  have hT8 : T ≤ 8 - n % 8 := by omega
  have hX := Nat.mod_lt (v / 2 ^ (c - T)) (Nat.two_pow_pos T)
  generalize v / 2 ^ (c - T) % 2 ^ T = X at hX
  have hXs : X * 2 ^ (8 - n % 8 - T) < 256 := by
    calc X * 2 ^ (8 - n % 8 - T) < 2 ^ T * 2 ^ (8 - n % 8 - T) := Nat.mul_lt_mul_of_pos_right hX (Nat.two_pow_pos _)
      _ = 2 ^ (T + (8 - n % 8 - T)) := (Nat.pow_add _ _ _).symm
      _ ≤ 2 ^ 8 := Nat.pow_le_pow_right (by decide) (by omega)
      _ = 256 := by decide
  have hs : shl .u8 (X : Int) (8 - (n : Int) % 8 - (T : Int)) = ((X * 2 ^ (8 - n % 8 - T) : Nat) : Int) := by
    unfold shl
    rw [show (8 - (n : Int) % 8 - (T : Int)) = ((8 - n % 8 - T : Nat) : Int) by omega, Int.toNat_natCast, Nat.min_eq_left (by simp [IntKind.bits]; omega)]
    rw [← u8wrap hXs]
    congr 1
  rw [hs, u8_or _ _ hb.1 hb.2 (Int.natCast_nonneg _) (by omega), Int.toNat_natCast]
theorem add_ok (v : Nat) (hv : v < 18446744073709551616) : ∀ (c k n : Nat) (l : List Int), OkX l n → c ≤ 64 → c < k → l.length + c < 1000000000 →
    ∃ l', bits_add.l0 k l (n : Int) (v : Int) (c : Int) = some (l', ((n + c : Nat) : Int)) ∧ OkX l' (n + c) ∧ Bs l' (n + c) = Bs l n ++ low v c := by
  intro c
  induction c using Nat.strongRecOn with
  | ind c ih =>
    intro k n l h hc hk hl
    obtain ⟨k, rfl⟩ : ∃ k', k = k' + 1 := ⟨k - 1, by omega⟩
    have hle := h.le
    have hnr := h.near
    rw [bits_add.l0]
    by_cases h0 : c = 0
    · subst h0
      rw [if_pos (by omega)]
      exact ⟨l, rfl, h, by simp [low]⟩
    · rw [if_neg (by omega), if_pos ⟨by omega, by omega, by omega, by omega, by omega⟩, addS_nat h v c hv (by omega) hc, addT_nat]
      generalize hT : min c (8 - n % 8) = T
      have hs := put_step (X := v / 2 ^ (c - T) % 2 ^ T) h (show 0 < T by omega) (by omega) (Nat.mod_lt _ (Nat.two_pow_pos T))
      have hlen : (orAt (addZ l n) (n / 8) (v / 2 ^ (c - T) % 2 ^ T * 2 ^ (8 - n % 8 - T))).length = n / 8 + 1 := by unfold orAt; rw [List.length_set, addZ_len h]
      generalize orAt (addZ l n) (n / 8) (v / 2 ^ (c - T) % 2 ^ T * 2 ^ (8 - n % 8 - T)) = l1 at hs hlen
      obtain ⟨l', h1, h2, h3⟩ := ih (c - T) (by omega) k (n + T) l1 hs.1 (by omega) (by omega) (by omega)
      rw [show n + T + (c - T) = n + c by omega] at h1 h2 h3
      refine ⟨l', ?_, h2, ?_⟩
      · rw [show ((n : Int) + (T : Int)) = ((n + T : Nat) : Int) by omega, show ((c : Int) - (T : Int)) = ((c - T : Nat) : Int) by omega]
        exact h1
      · rw [h3, hs.2, List.append_assoc, ← low_split v c T (by omega)]

/-! ### the reference's list and its bytes -/
theorem one_bit (v i : Nat) (hv : v < 18446744073709551616) (hi : i ≤ 64) : (Go.bits .and .u64 (shr .u64 (v : Int) (i : Int)) 1 == 1) = v.testBit i := by
  have hd : v / 2 ^ i ≤ v := Nat.div_le_self _ _
  rw [shr_nat _ _ _ (by simp [IntKind.bits]; omega), u64_and _ _ (Int.natCast_nonneg _) (by omega) (by decide) (by decide), Int.toNat_natCast, show (1 : Int).toNat = 1 from rfl, nat_mask1, Nat.testBit_eq_decide_div_mod_eq]
  have h2 : v / 2 ^ i % 2 = 0 ∨ v / 2 ^ i % 2 = 1 := by omega
  rcases h2 with h2 | h2 <;> rw [h2] <;> rfl
theorem low_succ (v c : Nat) : low v (c + 1) = v.testBit c :: low v c := by
  rw [low_split v (c + 1) 1 (by omega), Nat.add_sub_cancel]
  simp [low, Nat.testBit_eq_decide_div_mod_eq]
theorem radd_ok (v : Nat) (hv : v < 18446744073709551616) : ∀ (c k : Nat) (L : List Bool), c ≤ 64 → c < k → L.length + c < 100000000000 → dryrotref02_add.l0 k L (v : Int) ((c : Int) - 1) = some (L ++ low v c) := by
  intro c
  induction c with
  | zero =>
    intro k L hc hk hl
    obtain ⟨k, rfl⟩ : ∃ k', k = k' + 1 := ⟨k - 1, by omega⟩
    rw [dryrotref02_add.l0, if_neg (by omega)]
    simp [low]
  | succ c ih =>
    intro k L hc hk hl
    obtain ⟨k, rfl⟩ : ∃ k', k = k' + 1 := ⟨k - 1, by omega⟩
    rw [show (((c + 1 : Nat) : Int) - 1) = (c : Int) by omega, dryrotref02_add.l0, if_pos (by omega), if_pos (by omega), if_pos (by omega), one_bit v c hv (by omega), show wrap64 ((c : Int) - 1) = (c : Int) - 1 from w64 (by omega) (by omega), ih k _ (by omega) (by omega) (by simp; omega), low_succ, List.append_assoc]
    rfl
theorem radd_eq (v c k : Nat) (L : List Bool) (hv : v < 18446744073709551616) (hc : c ≤ 64) (hk : c < k) (hl : L.length < 10000000000) : dryrotref02_add.f k L (v : Int) (c : Int) = some (L ++ low v c) := by
  unfold dryrotref02_add.f
  rw [show wrap64 ((c : Int) - 1) = (c : Int) - 1 from w64 (by omega) (by omega)]
  exact radd_ok v hv c k L hc hk (by omega)
theorem pack_loop (L : List Bool) (hL : L.length < 1000000000) : ∀ (m i k : Nat) (l : List Int), i + m = L.length → m < k → OkX l i → Bs l i = L.take i →
    ∃ l', dryrotref02_pack.l0 k L (L.length : Int) (i : Int) l (L.length : Int) = some (l', (L.length : Int)) ∧ OkX l' L.length ∧ Bs l' L.length = L := by
  intro m
  induction m with
  | zero =>
    intro i k l hi hk h hb
    obtain ⟨k, rfl⟩ : ∃ k', k = k' + 1 := ⟨k - 1, by omega⟩
    rw [Nat.add_zero] at hi
    subst hi
    rw [dryrotref02_pack.l0, if_neg (by omega)]
    exact ⟨l, rfl, h, by rw [hb, List.take_length]⟩
  | succ m ih =>
    intro i k l hi hk h hb
    obtain ⟨k, rfl⟩ : ∃ k', k = k' + 1 := ⟨k - 1, by omega⟩
    have hle := h.le
    have hnr := h.near
    have e1 : wrap64 (Int.tdiv (i : Int) 8) = ((i / 8 : Nat) : Int) := by rw [td8]; exact w64n (by omega)
    have e2 : wrap64 ((i : Int) + 1) = ((i + 1 : Nat) : Int) := by rw [show ((i : Int) + 1) = ((i + 1 : Nat) : Int) by omega]; exact w64n (by omega)
    have hlt : i < L.length := by omega
    have e3 : rdOf false L (i : Int) = L[i] := by unfold rdOf; rw [Int.toNat_natCast, List.getD_eq_getElem?_getD, List.getElem?_eq_getElem hlt]; rfl
    have hs := put_step (X := L[i].toNat) h (T := 1) (by decide) (by omega) (by cases L[i] <;> decide)
    have hlz := addZ_len h
    have htk : L.take (i + 1) = L.take i ++ [L[i]] := by rw [List.take_succ_eq_append_getElem hlt]
    have hB : Bs (orAt (addZ l i) (i / 8) (L[i].toNat * 2 ^ (8 - i % 8 - 1))) (i + 1) = L.take (i + 1) := by
      rw [hs.2, hb, htk]
      congr 1
      cases L[i] <;> decide
    have hzok : OkL (addZ l i) := by
      unfold addZ
      split
      · intro x hx
        rcases List.mem_append.1 hx with hx | hx
        · exact h.bytes x hx
        · simp at hx; subst hx; decide
      · exact h.bytes
    have hgo : (if rdOf false L (i : Int) = true then (if 0 ≤ ((i / 8 : Nat) : Int) then (if ((i / 8 : Nat) : Int) < ((addZ l i).length : Int) then (if 0 ≤ ((i % 8 : Nat) : Int) then (dryrotref02_pack.l0 k L (L.length : Int) ((i + 1 : Nat) : Int) ((addZ l i).set (((i / 8 : Nat) : Int)).toNat (Go.bits .or .u8 (rd (addZ l i) ((i / 8 : Nat) : Int)) (shr .u8 128 ((i % 8 : Nat) : Int)))) (L.length : Int)) else (none)) else (none)) else (none)) else (dryrotref02_pack.l0 k L (L.length : Int) ((i + 1 : Nat) : Int) (addZ l i) (L.length : Int))) = dryrotref02_pack.l0 k L (L.length : Int) ((i + 1 : Nat) : Int) (orAt (addZ l i) (i / 8) (L[i].toNat * 2 ^ (8 - i % 8 - 1))) (L.length : Int) := by
      rw [e3]
      cases hbi : L[i] with
      | false =>
        rw [if_neg (by decide)]
        congr 1
        unfold orAt
        simp only [Bool.toNat_false, Nat.zero_mul, Nat.or_zero]
        have := hzok.at (i / 8)
        rw [Int.toNat_of_nonneg this.1]
        apply List.ext_getElem (by simp)
        intro j h1 h2
        rw [List.getElem_set]
        split
        · rename_i h3
          subst h3
          rw [List.getD_eq_getElem?_getD, List.getElem?_eq_getElem (by simpa using h1)]
          rfl
        · rfl
      | true =>
        rw [if_pos rfl, if_pos (by omega), if_pos (by omega), if_pos (by omega), Int.toNat_natCast, rd_nat]
        congr 1
        unfold orAt
        congr 1
        have hb := hzok.at (i / 8)
        have hsh : shr .u8 128 ((i % 8 : Nat) : Int) = ((2 ^ (8 - i % 8 - 1) : Nat) : Int) := by
          have : i % 8 < 8 := Nat.mod_lt _ (by decide)
          generalize i % 8 = j at this
          have hj : j = 0 ∨ j = 1 ∨ j = 2 ∨ j = 3 ∨ j = 4 ∨ j = 5 ∨ j = 6 ∨ j = 7 := by omega
          rcases hj with h | h | h | h | h | h | h | h <;> subst h <;> decide
        have hp : 2 ^ (8 - i % 8 - 1) < 256 := Nat.lt_of_le_of_lt (Nat.pow_le_pow_right (by decide) (show 8 - i % 8 - 1 ≤ 7 by omega)) (by decide)
        rw [hsh, u8_or _ _ hb.1 hb.2 (Int.natCast_nonneg _) (by omega), Int.toNat_natCast]
        simp
    obtain ⟨l', h1, h2, h3⟩ := ih (i + 1) k _ (by omega) (by omega) hs.1 hB
    refine ⟨l', ?_, h2, h3⟩
    rw [dryrotref02_pack.l0, if_pos (by omega), if_pos (by omega), if_pos (by omega), tm8, e1, e2]
    by_cases h0 : i % 8 = 0
    · rw [if_pos (by omega), if_pos (by omega)]
      have : l ++ [0] = addZ l i := by unfold addZ; rw [if_pos h0]
      simp only [Option.bind_some, this]
      exact hgo.trans h1
    · rw [if_neg (by omega)]
      have : addZ l i = l := by unfold addZ; rw [if_neg h0]
      rw [this] at hgo
      rw [this] at h1
      exact hgo.trans h1
theorem pack_eq (L : List Bool) (hL : L.length < 1000000000) (k : Nat) (hk : L.length < k) : ∃ l', dryrotref02_pack.f k L = some (l', (L.length : Int)) ∧ OkX l' L.length ∧ Bs l' L.length = L := by
  unfold dryrotref02_pack.f
  exact pack_loop L hL L.length 0 k [] (by omega) hk ⟨(fun x hx => by cases hx), by simp, by simp, (fun i h1 h2 => by simp at h2)⟩ (by simp [Bs, win])
end Go.Proofs.Ytpeekkpdglfbbaa.PA

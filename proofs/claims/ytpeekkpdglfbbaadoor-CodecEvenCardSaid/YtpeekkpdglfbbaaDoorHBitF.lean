/- What the functions over bits compute. -/
import Derived.Test.YtpeekkpdglfbbaaDoorGBitM
import Derived.Test.YtpeekkpdglfbbaaDoorPPut
import Derived.Test.YtpeekkpdglfbbaaDoorPPutInt
import Derived.Test.YtpeekkpdglfbbaaDoorPAf43
namespace Go.Proofs.YtpeekkpdglfbbaaDoor.PA
open Go.RowKit Go.Proofs.YtpeekkpdglfbbaaDoor.G Go.Proofs.YtpeekkpdglfbbaaDoorW.PrintWords Go.Proofs.YtpeekkpdglfbbaaDoorW.PrintLast Go.Proofs.YtpeekkpdglfbbaaDoorW.PrintMore
set_option linter.unusedVariables false
set_option linter.unusedSimpArgs false
attribute [local instance 10] Classical.propDecidable

theorem td8 (i : Nat) : Int.tdiv (i : Int) 8 = ((i / 8 : Nat) : Int) := rfl
theorem tm8 (i : Nat) : Int.tmod (i : Int) 8 = ((i % 8 : Nat) : Int) := rfl
theorem w64n {n : Nat} (h : n ≤ 9000000000000000000) : wrap64 (n : Int) = (n : Int) := w64 (by omega) (by omega)
theorem rd_nat (l : List Int) (i : Nat) : rd l (i : Int) = l.getD i 0 := by unfold rd; rw [Int.toNat_natCast]

theorem bit_and {l : List Int} (hl : OkL l) (i : Nat) : (Go.bits .and .u8 (rd l ((i / 8 : Nat) : Int)) (shr .u8 128 ((i % 8 : Nat) : Int)) != 0) = bit l i := by
  rw [rd_nat]
  have hb := hl.at (i / 8)
  have hs : shr .u8 128 ((i % 8 : Nat) : Int) = ((2 ^ (7 - i % 8) : Nat) : Int) := by
    have : i % 8 < 8 := Nat.mod_lt _ (by decide)
    generalize i % 8 = j at this
    have hj : j = 0 ∨ j = 1 ∨ j = 2 ∨ j = 3 ∨ j = 4 ∨ j = 5 ∨ j = 6 ∨ j = 7 := by omega
    rcases hj with h | h | h | h | h | h | h | h <;> subst h <;> decide
  have hp : 2 ^ (7 - i % 8) < 256 := Nat.lt_of_le_of_lt (Nat.pow_le_pow_right (by decide) (show 7 - i % 8 ≤ 7 by omega)) (by decide)
  rw [hs, u8_and _ _ hb.1 hb.2 (Int.natCast_nonneg _) (show ((2 ^ (7 - i % 8) : Nat) : Int) < ((256 : Nat) : Int) from Int.ofNat_lt.2 hp), Int.toNat_natCast, nat_bit]
  unfold bit
  generalize (l.getD (i / 8) 0).toNat = x
  rw [Nat.testBit_eq_decide_div_mod_eq]
  have h2 : x / 2 ^ (7 - i % 8) % 2 = 0 ∨ x / 2 ^ (7 - i % 8) % 2 = 1 := by omega
  rcases h2 with h2 | h2
  · rw [h2]; simp
  · rw [h2]
    have : (0 : Nat) < 2 ^ (7 - i % 8) := Nat.two_pow_pos _
    have h3 := Nat.ne_of_gt this
    simp
    exact_mod_cast h3

/-! ### the list -/
def tailB (l : List Int) (i : Nat) : Bool := (List.range (8 * l.length)).all fun j => decide (j < i) || !(bit l j)
/-! ### whether bits may be -/
theorem mask_zero (x t : Nat) : (x &&& (2 ^ t - 1) = 0) ↔ ∀ j, j < t → x.testBit j = false := by
  constructor
  · intro h j hj
    have : (x &&& (2 ^ t - 1)).testBit j = false := by rw [h]; exact Nat.zero_testBit j
    rw [Nat.testBit_and, Nat.testBit_two_pow_sub_one] at this
    simpa [hj] using this
  · intro h
    apply Nat.eq_of_testBit_eq
    intro j
    rw [Nat.testBit_and, Nat.testBit_two_pow_sub_one, Nat.zero_testBit]
    by_cases hj : j < t
    · rw [h j hj]; rfl
    · simp [hj]
theorem can_eq {l : List Int} (hl : OkL l) (hlen : l.length ≤ 1000000000) (N : Int) (h1 : -9223372036854775808 ≤ N) (h2 : N ≤ 9223372036854775807) :
    bits_Can.f l N = some (decide (0 ≤ N ∧ OkX l N.toNat)) := by
  unfold bits_Can.f
  have e0 : wrap64 (8 * (l.length : Int)) = ((8 * l.length : Nat) : Int) := by rw [show (8 * (l.length : Int)) = ((8 * l.length : Nat) : Int) by omega]; exact w64n (by omega)
  rw [e0]
  by_cases c1 : N < 0
  · rw [if_pos c1, decide_eq_false (by intro h; omega)]
  rw [if_neg c1]
  obtain ⟨n, rfl⟩ := Int.eq_ofNat_of_zero_le (by omega : 0 ≤ N)
  rw [Int.toNat_natCast]
  by_cases c2 : (n : Int) > ((8 * l.length : Nat) : Int)
  · rw [if_pos c2, decide_eq_false (by intro h; have := h.2.le; omega)]
  rw [if_neg c2]
  have e1 : wrap64 (((8 * l.length : Nat) : Int) - (n : Int)) = ((8 * l.length - n : Nat) : Int) := by rw [show (((8 * l.length : Nat) : Int) - (n : Int)) = ((8 * l.length - n : Nat) : Int) by omega]; exact w64n (by omega)
  rw [e1]
  by_cases c3 : ((8 * l.length - n : Nat) : Int) > 7
  · rw [if_pos c3, decide_eq_false (by intro h; have := h.2.near; omega)]
  rw [if_neg c3]
  by_cases c4 : ((8 * l.length - n : Nat) : Int) = 0
  · rw [if_pos c4, decide_eq_true ⟨by omega, hl, by omega, by omega, by intro i h1 h2; omega⟩]
  rw [if_neg c4]
  have e2 : wrap64 ((l.length : Int) - 1) = ((l.length - 1 : Nat) : Int) := by rw [show ((l.length : Int) - 1) = ((l.length - 1 : Nat) : Int) by omega]; exact w64n (by omega)
  rw [e2, if_pos (by omega), if_pos (by omega), if_pos (by omega), rd_nat]
  have hb := hl.at (l.length - 1)
  have ht : 8 * l.length - n < 8 := by omega
  have hs : (shl .u8 1 ((8 * l.length - n : Nat) : Int) - 1) % 256 = ((2 ^ (8 * l.length - n) - 1 : Nat) : Int) := by
    generalize 8 * l.length - n = j at ht
    have hj : j = 0 ∨ j = 1 ∨ j = 2 ∨ j = 3 ∨ j = 4 ∨ j = 5 ∨ j = 6 ∨ j = 7 := by omega
    rcases hj with h | h | h | h | h | h | h | h <;> subst h <;> decide +kernel
  have hp : 2 ^ (8 * l.length - n) ≤ 128 := Nat.le_trans (Nat.pow_le_pow_right (n := 2) (by decide) (show 8 * l.length - n ≤ 7 by omega)) (by decide)
  rw [hs, u8_and _ _ hb.1 hb.2 (by omega) (by omega), Int.toNat_natCast]
  congr 1
  have key : ((l.getD (l.length - 1) 0).toNat &&& (2 ^ (8 * l.length - n) - 1) = 0) ↔ (0 ≤ (n : Int) ∧ OkX l n) := by
    rw [mask_zero]
    constructor
    · intro h
      refine ⟨by omega, hl, by omega, by omega, ?_⟩
      intro i hi1 hi2
      unfold bit
      rw [show i / 8 = l.length - 1 by omega]
      exact h _ (by omega)
    · intro h j hj
      have := h.2.tail (8 * l.length - 1 - j) (by omega) (by omega)
      unfold bit at this
      rw [show (8 * l.length - 1 - j) / 8 = l.length - 1 by omega, show 7 - (8 * l.length - 1 - j) % 8 = j by omega] at this
      exact this
  by_cases h : 0 ≤ (n : Int) ∧ OkX l n
  · rw [decide_eq_true h, key.2 h]; rfl
  · rw [decide_eq_false h]
    have := mt key.1 h
    simp only [beq_eq_false_iff_ne, ne_eq]
    omega

/-! ### putting -/
theorem shl1 (T : Nat) (h : T ≤ 8) : IntKind.u64.wrap (shl .u64 1 (T : Int) - 1) = ((2 ^ T - 1 : Nat) : Int) := by
  have hj : T = 0 ∨ T = 1 ∨ T = 2 ∨ T = 3 ∨ T = 4 ∨ T = 5 ∨ T = 6 ∨ T = 7 ∨ T = 8 := by omega
  rcases hj with h | h | h | h | h | h | h | h | h <;> subst h <;> decide +kernel
theorem shr_nat (k : IntKind) (x j : Nat) (hj : j ≤ k.bits) : shr k (x : Int) (j : Int) = ((x / 2 ^ j : Nat) : Int) := by
  unfold shr
  rw [Int.toNat_natCast, Nat.min_eq_left hj]
  push_cast
  rfl
theorem u8wrap {x : Nat} (h : x < 256) : IntKind.u8.wrap (x : Int) = (x : Int) := by rw [IntKind.wrap_u8']; omega
theorem u64wrap {x : Nat} (h : x < 18446744073709551616) : IntKind.u64.wrap (x : Int) = (x : Int) := by simp [IntKind.wrap, IntKind.bits, IntKind.signed]; omega
theorem mod_pow_lt (x T : Nat) (h : T ≤ 8) : x % 2 ^ T < 256 := Nat.lt_of_lt_of_le (Nat.mod_lt _ (Nat.two_pow_pos _)) (Nat.le_trans (Nat.pow_le_pow_right (n := 2) (by decide) h) (by decide))
theorem addT_nat (n c : Nat) : addT (n : Int) (c : Int) = ((min c (8 - n % 8) : Nat) : Int) := by
  unfold addT
  split <;> omega
theorem addP_nat (n v c : Nat) (hv : v < 18446744073709551616) (hc : c ≤ 64) : addP (n : Int) (v : Int) (c : Int) = ((v / 2 ^ (c - min c (8 - n % 8)) % 2 ^ (min c (8 - n % 8)) : Nat) : Int) := by
  unfold addP
  rw [addT_nat]
  generalize hT : min c (8 - n % 8) = T
  have hT8 : T ≤ 8 := by omega
  have hd : v / 2 ^ (c - T) ≤ v := Nat.div_le_self _ _
  rw [show ((c : Int) - (T : Int)) = ((c - T : Nat) : Int) by omega, shr_nat _ _ _ (by simp [IntKind.bits]; omega), shl1 T hT8, u64_and _ _ (Int.natCast_nonneg _) (by omega) (Int.natCast_nonneg _) ?_, Int.toNat_natCast, Int.toNat_natCast, Nat.and_two_pow_sub_one_eq_mod]
  · have := mod_pow_lt (v / 2 ^ (c - T)) T hT8
    omega
  · have : 2 ^ T ≤ 256 := Nat.le_trans (Nat.pow_le_pow_right (n := 2) (by decide) hT8) (by decide)
    omega
theorem addS_nat {l : List Int} {n : Nat} (h : OkX l n) (v c : Nat) (hv : v < 18446744073709551616) (hc0 : 0 < c) (hc : c ≤ 64) :
    addS l (n : Int) (v : Int) (c : Int) = orAt (addZ l n) (n / 8) ((v / 2 ^ (c - min c (8 - n % 8)) % 2 ^ (min c (8 - n % 8))) * 2 ^ (8 - n % 8 - min c (8 - n % 8))) := by
  have e : addL l (n : Int) = addZ l n := by
    unfold addL addZ
    by_cases h0 : n % 8 = 0
    · rw [if_pos h0, if_pos (by omega)]
    · rw [if_neg h0, if_neg (by omega)]
  unfold addS orAt
  rw [e, addZ_len h, Nat.add_sub_cancel]
  congr 1
  have hzok : OkL (addZ l n) := by
    unfold addZ
    split
    · intro x hx
      rcases List.mem_append.1 hx with hx | hx
      · exact h.bytes x hx
      · simp at hx; subst hx; decide
    · exact h.bytes
  have hb := hzok.at (n / 8)
  generalize (addZ l n).getD (n / 8) 0 = b at hb
  unfold addB
  rw [addP_nat n v c hv hc, addT_nat]
  generalize hT : min c (8 - n % 8) = T
  have hT8 : T ≤ 8 - n % 8 := by omega
  have hX := Nat.mod_lt (v / 2 ^ (c - T)) (Nat.two_pow_pos T)
  generalize v / 2 ^ (c - T) % 2 ^ T = X at hX
  have hXs : X * 2 ^ (8 - n % 8 - T) < 256 := by
    calc X * 2 ^ (8 - n % 8 - T) < 2 ^ T * 2 ^ (8 - n % 8 - T) := Nat.mul_lt_mul_of_pos_right hX (Nat.two_pow_pos _)
      _ = 2 ^ (T + (8 - n % 8 - T)) := (Nat.pow_add _ _ _).symm
      _ ≤ 2 ^ 8 := Nat.pow_le_pow_right (by decide) (by omega)
      _ = 256 := by decide
  have hs : shl .u8 (X : Int) (8 - (n : Int) % 8 - (T : Int)) = ((X * 2 ^ (8 - n % 8 - T) : Nat) : Int) := by
    unfold shl
    rw [show (8 - (n : Int) % 8 - (T : Int)) = ((8 - n % 8 - T : Nat) : Int) by omega, Int.toNat_natCast, Nat.min_eq_left (by simp [IntKind.bits]; omega)]
    rw [← u8wrap hXs]
    congr 1
  rw [hs, u8_or _ _ hb.1 hb.2 (Int.natCast_nonneg _) (by omega), Int.toNat_natCast]
theorem add_ok (v : Nat) (hv : v < 18446744073709551616) : ∀ (c k n : Nat) (l : List Int), OkX l n → c ≤ 64 → c < k → l.length + c < 1000000000 →
    ∃ l', bits_add.l0 k l (n : Int) (v : Int) (c : Int) = some (l', ((n + c : Nat) : Int)) ∧ OkX l' (n + c) ∧ Bs l' (n + c) = Bs l n ++ low v c := by
  intro c
  induction c using Nat.strongRecOn with
  | ind c ih =>
    intro k n l h hc hk hl
    obtain ⟨k, rfl⟩ : ∃ k', k = k' + 1 := ⟨k - 1, by omega⟩
    have hle := h.le
    have hnr := h.near
    rw [bits_add.l0]
    by_cases h0 : c = 0
    · subst h0
      rw [if_pos (by omega)]
      exact ⟨l, rfl, h, by simp [low]⟩
    · rw [if_neg (by omega), if_pos ⟨by omega, by omega, by omega, by omega, by omega⟩, addS_nat h v c hv (by omega) hc, addT_nat]
      generalize hT : min c (8 - n % 8) = T
      have hs := put_step (X := v / 2 ^ (c - T) % 2 ^ T) h (show 0 < T by omega) (by omega) (Nat.mod_lt _ (Nat.two_pow_pos T))
      have hlen : (orAt (addZ l n) (n / 8) (v / 2 ^ (c - T) % 2 ^ T * 2 ^ (8 - n % 8 - T))).length = n / 8 + 1 := by unfold orAt; rw [List.length_set, addZ_len h]
      generalize orAt (addZ l n) (n / 8) (v / 2 ^ (c - T) % 2 ^ T * 2 ^ (8 - n % 8 - T)) = l1 at hs hlen
      obtain ⟨l', h1, h2, h3⟩ := ih (c - T) (by omega) k (n + T) l1 hs.1 (by omega) (by omega) (by omega)
      rw [show n + T + (c - T) = n + c by omega] at h1 h2 h3
      refine ⟨l', ?_, h2, ?_⟩
      · rw [show ((n : Int) + (T : Int)) = ((n + T : Nat) : Int) by omega, show ((c : Int) - (T : Int)) = ((c - T : Nat) : Int) by omega]
        exact h1
      · rw [h3, hs.2, List.append_assoc, ← low_split v c T (by omega)]

/-! ### the reference's list and its bytes -/
theorem one_bit (v i : Nat) (hv : v < 18446744073709551616) (hi : i ≤ 64) : (Go.bits .and .u64 (shr .u64 (v : Int) (i : Int)) 1 == 1) = v.testBit i := by
  have hd : v / 2 ^ i ≤ v := Nat.div_le_self _ _
  rw [shr_nat _ _ _ (by simp [IntKind.bits]; omega), u64_and _ _ (Int.natCast_nonneg _) (by omega) (by decide) (by decide), Int.toNat_natCast, show (1 : Int).toNat = 1 from rfl, nat_mask1, Nat.testBit_eq_decide_div_mod_eq]
  have h2 : v / 2 ^ i % 2 = 0 ∨ v / 2 ^ i % 2 = 1 := by omega
  rcases h2 with h2 | h2 <;> rw [h2] <;> rfl
theorem low_succ (v c : Nat) : low v (c + 1) = v.testBit c :: low v c := by
  rw [low_split v (c + 1) 1 (by omega), Nat.add_sub_cancel]
  simp [low, Nat.testBit_eq_decide_div_mod_eq]
end Go.Proofs.YtpeekkpdglfbbaaDoor.PA

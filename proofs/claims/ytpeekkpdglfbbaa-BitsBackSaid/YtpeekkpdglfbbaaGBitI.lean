/- What the functions over numbers in bits compute. -/
import Derived.Test.YtpeekkpdglfbbaaGBitT
namespace Go.Proofs.Ytpeekkpdglfbbaa.PA
set_option linter.unusedVariables false
set_option linter.unusedSimpArgs false
attribute [local instance 10] Classical.propDecidable
open Go.RowKit Go.Proofs.Ytpeekkpdglfbbaa.G Go.Proofs.YtpeekkpdglfbbaaW.PrintWords Go.Proofs.YtpeekkpdglfbbaaW.PrintLast Go.Proofs.YtpeekkpdglfbbaaW.PrintMore

theorem class_ge (n : Int) (k : Nat) (hk : 8 ≤ k) : bits_class.f k n = some (classN n) := by
  obtain ⟨m, rfl⟩ : ∃ m, k = 8 + m := ⟨k - 8, by omega⟩
  clear hk
  induction m with
  | zero => exact class_eq n
  | succ m ih => exact bits_class.mono n (8 + m) _ ih
theorem rclass_ge (n : Int) (k : Nat) (hk : 8 ≤ k) : dryrotref02_class.f k n = some (classN n, widthN (classN n)) := by
  obtain ⟨k, rfl⟩ : ∃ m, k = m + 2 := ⟨k - 2, by omega⟩
  unfold dryrotref02_class.f
  by_cases a1 : n = 0
  · subst a1; rfl
  rw [if_neg a1]
  by_cases a2 : n ≥ -64
  · rw [if_pos a2, dryrotref02_class.j0]
    by_cases a3 : n ≤ 63
    · rw [decide_eq_true a3, if_pos rfl, show classN n = 1 by unfold classN; rw [if_neg a1, if_pos (by omega)]]
      rfl
    · rw [decide_eq_false a3, if_neg (by decide), if_pos (by omega), dryrotref02_class.j1]
      by_cases a4 : n ≤ 2047
      · rw [decide_eq_true a4, if_pos rfl, show classN n = 2 by unfold classN; rw [if_neg a1, if_neg (by omega), if_pos (by omega)]]
        rfl
      · rw [decide_eq_false a4, if_neg (by decide), if_pos (by omega)]
        by_cases a5 : n ≤ 2147483647
        · rw [if_pos a5, show classN n = 3 by unfold classN; rw [if_neg a1, if_neg (by omega), if_neg (by omega), if_pos (by omega)]]
          rfl
        · rw [if_neg a5, show classN n = 4 by unfold classN; rw [if_neg a1, if_neg (by omega), if_neg (by omega), if_neg (by omega)]]
          rfl
  · rw [if_neg a2, dryrotref02_class.j0, if_neg (by decide)]
    by_cases a3 : n ≥ -2048
    · rw [if_pos a3, dryrotref02_class.j1, decide_eq_true (by omega : n ≤ 2047), if_pos rfl, show classN n = 2 by unfold classN; rw [if_neg a1, if_neg (by omega), if_pos (by omega)]]
      rfl
    · rw [if_neg a3, dryrotref02_class.j1, if_neg (by decide)]
      by_cases a4 : n ≥ -2147483648
      · rw [if_pos a4, if_pos (by omega), show classN n = 3 by unfold classN; rw [if_neg a1, if_neg (by omega), if_neg (by omega), if_pos (by omega)]]
        rfl
      · rw [if_neg a4, show classN n = 4 by unfold classN; rw [if_neg a1, if_neg (by omega), if_neg (by omega), if_neg (by omega)]]
        rfl

/-! ### a number behind bits -/
theorem u64_of_int (v : Int) : ∃ u : Nat, IntKind.u64.wrap v = (u : Int) ∧ u < 18446744073709551616 := by
  refine ⟨(v % 18446744073709551616).toNat, ?_, by omega⟩
  simp only [IntKind.wrap, IntKind.bits, IntKind.signed]
  simp
  omega
/-- the bits of a number -/
def intBits (v : Int) : List Bool := low (2 ^ (classN v).toNat - 1) (classN v).toNat ++ (if classN v < 4 then [false] else []) ++ low (IntKind.u64.wrap v).toNat (widthN (classN v)).toNat
theorem width_le (k : Int) : 0 ≤ widthN k ∧ widthN k ≤ 64 := by
  unfold widthN
  repeat' split
  all_goals omega
theorem mask_k (k : Nat) (hk : k ≤ 4) : IntKind.u64.wrap (shl .u64 1 (k : Int) - 1) = ((2 ^ k - 1 : Nat) : Int) := shl1 k (by omega)
theorem putInt_ok {l : List Int} {n : Nat} (h : OkX l n) (hlen : l.length ≤ 900000000) (v : Int) :
    ∃ (l' : List Int) (m : Nat), bits_PutInt.f l (n : Int) v = some (l', (m : Int), 0) ∧ m = n + (intBits v).length ∧ OkX l' m ∧ Bs l' m = Bs l n ++ intBits v := by
  have hle := h.le
  have hcr := classN_range v
  have hwr := width_le (classN v)
  obtain ⟨u, hu, hu64⟩ := u64_of_int v
  obtain ⟨k, hk⟩ := Int.eq_ofNat_of_zero_le hcr.1
  obtain ⟨wd, hwd⟩ := Int.eq_ofNat_of_zero_le hwr.1
  unfold bits_PutInt.f intBits
  rw [if_pos hlen, can_eq h.bytes (by omega) n (by omega) (by omega), Int.toNat_natCast, decide_eq_true ⟨by omega, h⟩, Option.bind_some, if_pos rfl, hwd, hk, hu, mask_k k (by omega), Int.toNat_natCast, Int.toNat_natCast, Int.toNat_natCast]
  have hk4 : k ≤ 4 := by omega
  have h2k : 2 ^ k - 1 < 18446744073709551616 := Nat.lt_of_le_of_lt (Nat.sub_le _ _) (Nat.lt_of_le_of_lt (Nat.pow_le_pow_right (n := 2) (by decide) hk4) (by decide))
  obtain ⟨l1, a1, b1, c1⟩ := add_ok (2 ^ k - 1) h2k k 70 n l h (by omega) (by omega) (by omega)
  unfold bits_add.f
  rw [a1, Option.bind_some]
  have hl1 := b1.near
  by_cases h4 : (k : Int) < 4
  · rw [if_pos h4, if_pos h4]
    obtain ⟨l2, a2, b2, c2⟩ := add_ok 0 (by decide) 1 70 (n + k) l1 b1 (by omega) (by omega) (by omega)
    rw [show ((0 : Nat) : Int) = 0 from rfl, show ((1 : Nat) : Int) = 1 from rfl] at a2
    rw [a2, Option.bind_some]
    have hl2 := b2.near
    obtain ⟨l3, a3, b3, c3⟩ := add_ok u hu64 wd 70 (n + k + 1) l2 b2 (by omega) (by omega) (by omega)
    rw [a3]
    refine ⟨l3, n + k + 1 + wd, rfl, by simp; omega, b3, ?_⟩
    rw [c3, c2, c1]
    simp [low]
  · rw [if_neg h4, if_neg h4, Option.bind_some]
    obtain ⟨l3, a3, b3, c3⟩ := add_ok u hu64 wd 70 (n + k) l1 b1 (by omega) (by omega) (by omega)
    rw [a3]
    refine ⟨l3, n + k + wd, rfl, by simp; omega, b3, ?_⟩
    rw [c3, c1]
    simp
theorem putInt_bad {l : List Int} (hl : OkL l) (hlen : l.length ≤ 900000000) (N v : Int) (h1 : -9223372036854775808 ≤ N) (h2 : N ≤ 9223372036854775807) (h : ¬ (0 ≤ N ∧ OkX l N.toNat)) : bits_PutInt.f l N v = some ([], 0, 1) := by
  unfold bits_PutInt.f
  rw [if_pos hlen, can_eq hl (by omega) N h1 h2, decide_eq_false h]
  rfl
theorem rputInt_loop (L : List Bool) (hL : L.length < 900000000) (v : Int) (k0 w : Nat) (hk0 : k0 ≤ 4) (hw : w ≤ 64) : ∀ (m i k : Nat) (A : List Bool), i + m = k0 → 2 * m + A.length + 200 < k → A.length ≤ L.length + i →
    ∃ l', dryrotref02_PutInt.l0 k v A (k0 : Int) (w : Int) (k0 : Int) (i : Int) = some (l', ((A.length + m + (if (k0 : Int) < 4 then 1 else 0) + w : Nat) : Int), 0) ∧ OkX l' (A.length + m + (if (k0 : Int) < 4 then 1 else 0) + w) ∧ Bs l' (A.length + m + (if (k0 : Int) < 4 then 1 else 0) + w) = A ++ List.replicate m true ++ (if (k0 : Int) < 4 then [false] else []) ++ low (IntKind.u64.wrap v).toNat w := by
  intro m
  induction m with
  | zero =>
    intro i k A hi hk hA
    obtain ⟨k, rfl⟩ : ∃ k', k = k' + 1 := ⟨k - 1, by omega⟩
    obtain ⟨u, hu, hu64⟩ := u64_of_int v
    rw [dryrotref02_PutInt.l0, if_neg (by omega), hu, Int.toNat_natCast]
    by_cases h4 : (k0 : Int) < 4
    · rw [if_pos h4, if_pos (by omega), radd_eq u w k _ hu64 hw (by omega) (by simp; omega), Option.bind_some, if_pos h4, if_pos h4]
      obtain ⟨l', a, b, c⟩ := pack_eq (A ++ [false] ++ low u w) (by simp; omega) k (by simp; omega)
      rw [a, Option.bind_some]
      have e : (A ++ [false] ++ low u w).length = A.length + 0 + 1 + w := by simp; omega
      rw [e] at b c ⊢
      exact ⟨l', rfl, b, by rw [c]; simp⟩
    · rw [if_neg h4, radd_eq u w k _ hu64 hw (by omega) (by omega), Option.bind_some, if_neg h4, if_neg h4]
      obtain ⟨l', a, b, c⟩ := pack_eq (A ++ low u w) (by simp; omega) k (by simp; omega)
      rw [a, Option.bind_some]
      have e : (A ++ low u w).length = A.length + 0 + 0 + w := by simp
      rw [e] at b c ⊢
      exact ⟨l', rfl, b, by rw [c]; simp⟩
  | succ m ih =>
    intro i k A hi hk hA
    obtain ⟨k, rfl⟩ : ∃ k', k = k' + 1 := ⟨k - 1, by omega⟩
    have e : (A ++ [true]).length + m = A.length + (m + 1) := by simp; omega
    have e3 : 2 * m + (A ++ [true]).length + 200 < k := by omega
    have e4 : (A ++ [true]).length ≤ L.length + (i + 1) := by simp; omega
    have e2 : wrap64 ((i : Int) + 1) = ((i + 1 : Nat) : Int) := by rw [show ((i : Int) + 1) = ((i + 1 : Nat) : Int) by omega]; exact w64n (by omega)
    rw [dryrotref02_PutInt.l0, if_pos (by omega), if_pos (by omega), e2]
    obtain ⟨l', a, b, c⟩ := ih (i + 1) k (A ++ [true]) (by omega) e3 e4
    rw [e] at a b c
    exact ⟨l', a, b, by rw [c, List.replicate_succ]; simp⟩
theorem ones_eq (k : Nat) (h : k ≤ 4) : low (2 ^ k - 1) k = List.replicate k true := by
  have : k = 0 ∨ k = 1 ∨ k = 2 ∨ k = 3 ∨ k = 4 := by omega
  rcases this with h | h | h | h | h <;> subst h <;> decide
theorem rputInt_ok {l : List Int} {n : Nat} (h : OkX l n) (hlen : l.length ≤ 100000000) (v : Int) (k : Nat) (hk : 9 * l.length + 1000 < k) :
    ∃ (l' : List Int) (m : Nat), dryrotref02_PutInt.f k l (n : Int) v = some (l', (m : Int), 0) ∧ m = n + (intBits v).length ∧ OkX l' m ∧ Bs l' m = Bs l n ++ intBits v := by
  have hle := h.le
  have hcr := classN_range v
  have hwr := width_le (classN v)
  obtain ⟨k0, hk0⟩ := Int.eq_ofNat_of_zero_le hcr.1
  obtain ⟨wd, hwd⟩ := Int.eq_ofNat_of_zero_le hwr.1
  unfold dryrotref02_PutInt.f intBits
  rw [list_eq h.bytes (by omega) n (by omega) (by omega) k (by omega), if_pos ⟨by omega, h⟩, Option.bind_some, Int.toNat_natCast]
  simp only [if_true]
  rw [rclass_ge v k (by omega), Option.bind_some]
  simp only
  rw [hwd, hk0, Int.toNat_natCast, Int.toNat_natCast, ones_eq k0 (by omega)]
  obtain ⟨l', a, b, c⟩ := rputInt_loop (Bs l n) (by simp; omega) v k0 wd (by omega) (by omega) k0 0 k (Bs l n) (by omega) (by simp; omega) (by simp)
  rw [show ((0 : Nat) : Int) = 0 from rfl] at a
  refine ⟨l', _, a, ?_, b, ?_⟩
  · simp
    split <;> simp <;> omega
  · rw [c]
    simp
theorem rputInt_bad {l : List Int} (hl : OkL l) (hlen : l.length ≤ 100000000) (N v : Int) (h1 : -9223372036854775808 ≤ N) (h2 : N ≤ 9223372036854775807) (h : ¬ (0 ≤ N ∧ OkX l N.toNat)) (k : Nat) (hk : 9 * l.length + 1000 < k) : dryrotref02_PutInt.f k l N v = some ([], 0, 1) := by
  unfold dryrotref02_PutInt.f
  rw [list_eq hl (by omega) N h1 h2 k (by omega), if_neg h]
  rfl

/-! ### a number at a place -/
def sgn (x w : Nat) : Int := if 0 < w ∧ 2 ^ (w - 1) ≤ x then (x : Int) - 2 ^ w else (x : Int)
/-- the number of class k that begins at p -/
def tailI (l : List Int) (n p : Nat) (k : Int) : Int × Int × Int :=
  if (n : Int) - p < widthN k then (0, 0, 3) else if classN (sgn (num (win l p (widthN k).toNat)) (widthN k).toNat) = k then (sgn (num (win l p (widthN k).toNat)) (widthN k).toNat, ((p + (widthN k).toNat : Nat) : Int), 0) else (0, 0, 5)
/-- the class's ones from p on; m more may be -/
def headI (l : List Int) (n : Nat) : Nat → Nat → Int × Int × Int
  | 0, p => tailI l n p 4
  | m + 1, p => if n ≤ p then (0, 0, 3) else if bit l p = true then headI l n m (p + 1) else tailI l n (p + 1) (3 - m)
theorem sgn_class {x w : Nat} (hw : w = 0 ∨ w = 7 ∨ w = 12 ∨ w = 32 ∨ w = 64) (hx : x < 2 ^ w) (h0 : 0 < w) :
    shr .i64 (wrap64 (shl .u64 (x : Int) (wrap64 (64 - (w : Int))))) (wrap64 (64 - (w : Int))) = sgn x w := by
  rcases hw with h | h | h | h | h <;> subst h
  · cases h0
  all_goals
    unfold sgn shr shl
    simp only [IntKind.bits]
  · rw [show wrap64 (64 - ((7 : Nat) : Int)) = 57 by decide +kernel, show (min (57 : Int).toNat 64) = 57 from rfl, show ((2 : Int) ^ 57) = 144115188075855872 by decide]
    simp only [IntKind.wrap, IntKind.bits, IntKind.signed, wrap64]
    simp at hx ⊢
    split <;> omega
  · rw [show wrap64 (64 - ((12 : Nat) : Int)) = 52 by decide +kernel, show (min (52 : Int).toNat 64) = 52 from rfl, show ((2 : Int) ^ 52) = 4503599627370496 by decide]
    simp only [IntKind.wrap, IntKind.bits, IntKind.signed, wrap64]
    simp at hx ⊢
    split <;> omega
  · rw [show wrap64 (64 - ((32 : Nat) : Int)) = 32 by decide +kernel, show (min (32 : Int).toNat 64) = 32 from rfl, show ((2 : Int) ^ 32) = 4294967296 by decide]
    simp only [IntKind.wrap, IntKind.bits, IntKind.signed, wrap64]
    simp at hx ⊢
    split <;> omega
  · rw [show wrap64 (64 - ((64 : Nat) : Int)) = 0 by decide +kernel, show (min (0 : Int).toNat 64) = 0 from rfl, show ((2 : Int) ^ 0) = 1 by decide]
    simp only [IntKind.wrap, IntKind.bits, IntKind.signed, wrap64]
    simp at hx ⊢
    split <;> omega
end Go.Proofs.Ytpeekkpdglfbbaa.PA

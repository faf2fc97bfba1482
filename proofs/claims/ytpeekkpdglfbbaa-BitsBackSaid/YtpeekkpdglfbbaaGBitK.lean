/- What was put is taken. -/
import Derived.Test.YtpeekkpdglfbbaaGBitJ
namespace Go.Proofs.Ytpeekkpdglfbbaa.PA
set_option linter.unusedVariables false
set_option linter.unusedSimpArgs false
attribute [local instance 10] Classical.propDecidable
open Go.RowKit Go.Proofs.Ytpeekkpdglfbbaa.G Go.Proofs.YtpeekkpdglfbbaaW.PrintWords Go.Proofs.YtpeekkpdglfbbaaW.PrintLast Go.Proofs.YtpeekkpdglfbbaaW.PrintMore

theorem okL_wf {l : List Int} (h : ∀ x ∈ l, (Lit.int .u8 x).wf = true) : OkL l := by
  have h1 : okB l = true := okB_wf h
  exact okB_iff.1 h1
theorem win_part {l : List Int} {m q c : Nat} {X Y Z : List Bool} (h : Bs l m = X ++ Y ++ Z) (hX : X.length = q) (hY : Y.length = c) : win l q c = Y := by
  have hm : m = X.length + Y.length + Z.length := by have := congrArg List.length h; simp at this; omega
  rw [win_Bs l m q c (by omega), h, List.append_assoc]
  subst hX hY
  rw [List.take_append, List.take_of_length_le (by omega), List.drop_append_of_le_length (by omega), List.drop_length, List.nil_append, Nat.add_sub_cancel_left, List.take_append_of_le_length (Nat.le_refl _), List.take_length]
theorem bit_part {l : List Int} {m q : Nat} {b : Bool} {X Z : List Bool} (h : Bs l m = X ++ [b] ++ Z) (hX : X.length = q) : bit l q = b := by
  have := win_part h hX (show [b].length = 1 from rfl)
  rw [win_one] at this
  simpa using this
theorem head_ones {l : List Int} {n : Nat} : ∀ (j m p : Nat), j ≤ m → (∀ i, i < j → p + i < n ∧ bit l (p + i) = true) → headI l n m p = headI l n (m - j) (p + j) := by
  intro j
  induction j with
  | zero => intro m p h1 h2; rfl
  | succ j ih =>
    intro m p h1 h2
    obtain ⟨m, rfl⟩ : ∃ m', m = m' + 1 := ⟨m - 1, by omega⟩
    have h0 := h2 0 (by omega)
    rw [Nat.add_zero] at h0
    rw [headI, if_neg (by omega), if_pos h0.2, ih m (p + 1) (by omega) (fun i hi => by have := h2 (i + 1) (by omega); rwa [show p + (i + 1) = p + 1 + i by omega] at this)]
    rw [show m + 1 - (j + 1) = m - j by omega, show p + (j + 1) = p + 1 + j by omega]
theorem sgn_back (v : Int) (hv : (Lit.int .i64 v).wf = true) (u : Nat) (hu : IntKind.u64.wrap v = (u : Int)) : sgn (u % 2 ^ (widthN (classN v)).toNat) (widthN (classN v)).toNat = v := by
  have b := i64_bd hv
  have hu' : (u : Int) = v % 18446744073709551616 := by rw [← hu]; simp [IntKind.wrap, IntKind.bits, IntKind.signed]
  clear hu hv
  unfold sgn
  by_cases a1 : v = 0
  · rw [show classN v = 0 by unfold classN; rw [if_pos a1]]
    simp [widthN]
    omega
  by_cases a2 : -64 ≤ v ∧ v < 64
  · rw [show classN v = 1 by unfold classN; rw [if_neg a1, if_pos a2], show (widthN 1).toNat = 7 from rfl]
    simp
    split <;> omega
  by_cases a3 : -2048 ≤ v ∧ v < 2048
  · rw [show classN v = 2 by unfold classN; rw [if_neg a1, if_neg a2, if_pos a3], show (widthN 2).toNat = 12 from rfl]
    simp
    split <;> omega
  by_cases a4 : -2147483648 ≤ v ∧ v < 2147483648
  · rw [show classN v = 3 by unfold classN; rw [if_neg a1, if_neg a2, if_neg a3, if_pos a4], show (widthN 3).toNat = 32 from rfl]
    simp
    split <;> omega
  · rw [show classN v = 4 by unfold classN; rw [if_neg a1, if_neg a2, if_neg a3, if_neg a4], show (widthN 4).toNat = 64 from rfl]
    simp
    split <;> omega
theorem head_back {l : List Int} {m : Nat} {B : List Bool} (v : Int) (hv : (Lit.int .i64 v).wf = true) (h : Bs l m = B ++ intBits v) : headI l m 4 B.length = (v, (m : Int), 0) := by
  have hcr := classN_range v
  have hwr := width_le (classN v)
  obtain ⟨u, hu, hu64⟩ := u64_of_int v
  have hsg := sgn_back v hv u hu
  obtain ⟨k, hk⟩ := Int.eq_ofNat_of_zero_le hcr.1
  obtain ⟨wd, hwd⟩ := Int.eq_ofNat_of_zero_le hwr.1
  unfold intBits at h
  rw [hwd, hu, Int.toNat_natCast] at h
  rw [hwd, Int.toNat_natCast] at hsg
  rw [hk] at h hwd
  rw [Int.toNat_natCast] at h
  rw [Int.toNat_natCast] at h
  rw [ones_eq k (by omega)] at h
  have hlen : m = B.length + k + (if (k : Int) < 4 then 1 else 0) + wd := by
    have := congrArg List.length h
    simp at this
    rw [this]
    split <;> simp <;> omega
  have hones : ∀ i, i < k → B.length + i < m ∧ bit l (B.length + i) = true := by
    intro i hi
    refine ⟨by omega, ?_⟩
    have e : List.replicate k true = List.replicate i true ++ [true] ++ List.replicate (k - i - 1) true := by
      rw [show [true] = List.replicate 1 true from rfl, List.replicate_append_replicate, List.replicate_append_replicate]
      congr 1
      omega
    exact bit_part (X := B ++ List.replicate i true) (Z := List.replicate (k - i - 1) true ++ (if (k : Int) < 4 then [false] else []) ++ low u wd) (by rw [h, e]; simp) (by simp)
  rw [head_ones k 4 B.length (by omega) hones]
  have tl : ∀ (X : List Bool), Bs l m = X ++ low u wd → tailI l m X.length (k : Int) = (v, (m : Int), 0) := by
    intro X hX
    have hm : m = X.length + wd := by have := congrArg List.length hX; simpa using this
    unfold tailI
    have hw1 : win l X.length wd = low u wd := win_part (X := X) (Y := low u wd) (Z := []) (by rw [hX]; simp) rfl (by simp)
    rw [hwd, Int.toNat_natCast, if_neg (by omega), hw1, num_low, hsg, if_pos hk, ← hm]
  by_cases h4 : (k : Int) < 4
  · rw [if_pos h4] at h hlen
    obtain ⟨j, hj⟩ : ∃ j, 4 - k = j + 1 := ⟨3 - k, by omega⟩
    have hb : bit l (B.length + k) = false := bit_part (X := B ++ List.replicate k true) (Z := low u wd) (by rw [h]; simp) (by simp)
    rw [hj, headI, if_neg (by omega), hb, if_neg (by decide)]
    have := tl (B ++ List.replicate k true ++ [false]) (by rw [h]; simp)
    rw [show (B ++ List.replicate k true ++ [false]).length = B.length + k + 1 by simp; omega] at this
    rw [show (3 - (j : Int)) = (k : Int) by omega]
    exact this
  · rw [if_neg h4] at h hlen
    have hk4 : k = 4 := by omega
    subst hk4
    rw [show 4 - 4 = 0 from rfl, headI]
    have := tl (B ++ List.replicate 4 true) (by rw [h]; simp)
    rw [show (B ++ List.replicate 4 true).length = B.length + 4 by simp] at this
    exact this
theorem put_ok {l : List Int} {n : Nat} (h : OkX l n) (hlen : l.length ≤ 900000000) (v c : Nat) (hv : v < 18446744073709551616) (hc : c ≤ 64) :
    ∃ (l' : List Int), bits_Put.f l (n : Int) (v : Int) (c : Int) = some (l', ((n + c : Nat) : Int), 0) ∧ OkX l' (n + c) ∧ Bs l' (n + c) = Bs l n ++ low v c := by
  have hle := h.le
  obtain ⟨l', a, b, d⟩ := add_ok v hv c 70 n l h hc (by omega) (by omega)
  refine ⟨l', ?_, b, d⟩
  unfold bits_Put.f bits_add.f
  rw [if_pos hlen, can_eq h.bytes (by omega) n (by omega) (by omega), Int.toNat_natCast, decide_eq_true ⟨by omega, h⟩, Option.bind_some, if_pos rfl, if_neg (by omega), if_neg (by omega), a]
  rfl
theorem rput_ok {l : List Int} {n : Nat} (h : OkX l n) (hlen : l.length ≤ 1000000) (v c : Nat) (hv : v < 18446744073709551616) (hc : c ≤ 64) (k : Nat) (hk : 9 * l.length + 300 < k) :
    ∃ (l' : List Int), dryrotref02_Put.f k l (n : Int) (v : Int) (c : Int) = some (l', ((n + c : Nat) : Int), 0) ∧ OkX l' (n + c) ∧ Bs l' (n + c) = Bs l n ++ low v c := by
  have hle := h.le
  obtain ⟨k, rfl⟩ : ∃ k', k = k' + 1 := ⟨k - 1, by omega⟩
  obtain ⟨l', a, b, d⟩ := pack_eq (Bs l n ++ low v c) (by simp; omega) k (by simp; omega)
  simp only [List.length_append, Bs_length, low_length] at a b d
  refine ⟨l', ?_, b, d⟩
  unfold dryrotref02_Put.f
  rw [list_eq h.bytes (by omega) n (by omega) (by omega) _ (by omega), if_pos ⟨by omega, h⟩, Option.bind_some, Int.toNat_natCast]
  simp only [if_true]
  rw [if_neg (by omega), decide_eq_false (by omega), dryrotref02_Put.j0, if_neg (by decide), radd_eq v c k _ hv hc (by omega) (by simp; omega), Option.bind_some, a]
  rfl
theorem wrap_u64 (n : Int) : IntKind.u64.wrap n = n % 18446744073709551616 := by simp [IntKind.wrap, IntKind.bits, IntKind.signed]
theorem shift_back (v c : Nat) (hv : v < 18446744073709551616) (h0 : 0 < c) (hc : c ≤ 64) : shr .u64 (shl .u64 (v : Int) ((64 - c : Nat) : Int)) ((64 - c : Nat) : Int) = ((v % 2 ^ c : Nat) : Int) := by
  have e1 : shl .u64 (v : Int) ((64 - c : Nat) : Int) = ((v % 2 ^ c * 2 ^ (64 - c) : Nat) : Int) := by
    unfold shl
    rw [Int.toNat_natCast, Nat.min_eq_left (by simp [IntKind.bits])]
    have : v % 2 ^ c * 2 ^ (64 - c) = v * 2 ^ (64 - c) % 18446744073709551616 := by
      rw [← Nat.mul_mod_mul_right, ← Nat.pow_add, show c + (64 - c) = 64 by omega]
    rw [this, wrap_u64, Int.natCast_emod, Int.natCast_mul, Int.natCast_pow]
    rfl
  rw [e1, shr_nat _ _ _ (by simp [IntKind.bits]), Nat.mul_div_cancel _ (Nat.two_pow_pos _)]
end Go.Proofs.Ytpeekkpdglfbbaa.PA

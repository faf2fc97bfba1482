/- What is taken as a number is that number's bits. -/
import Derived.Test.YtpeekkpdglfbbaaGBitI
namespace Go.Proofs.Ytpeekkpdglfbbaa.PA
set_option linter.unusedVariables false
set_option linter.unusedSimpArgs false
attribute [local instance 10] Classical.propDecidable
open Go.RowKit Go.Proofs.Ytpeekkpdglfbbaa.G Go.Proofs.YtpeekkpdglfbbaaW.PrintWords Go.Proofs.YtpeekkpdglfbbaaW.PrintLast Go.Proofs.YtpeekkpdglfbbaaW.PrintMore
theorem sgn_mod {x w u : Nat} (hw : w = 0 ∨ w = 7 ∨ w = 12 ∨ w = 32 ∨ w = 64) (hx : x < 2 ^ w) (hu : IntKind.u64.wrap (sgn x w) = (u : Int)) : u % 2 ^ w = x := by
  rw [wrap_u64] at hu
  unfold sgn at hu
  rcases hw with h | h | h | h | h <;> subst h
  · simp at hx ⊢; omega
  all_goals
    simp at hx hu ⊢
    split at hu <;> omega
theorem sgn_wf {x w : Nat} (hw : w = 0 ∨ w = 7 ∨ w = 12 ∨ w = 32 ∨ w = 64) (hx : x < 2 ^ w) : (Lit.int .i64 (sgn x w)).wf = true := by
  have : -9223372036854775808 ≤ sgn x w ∧ sgn x w ≤ 9223372036854775807 := by
    unfold sgn
    rcases hw with h | h | h | h | h <;> subst h
    · simp at hx ⊢; omega
    all_goals
      simp at hx ⊢
      split <;> omega
  simp [Lit.wf, IntKind.min, IntKind.max, IntKind.signed, IntKind.bits]
  omega
theorem tail_inv {l : List Int} {n p : Nat} {c v t : Int} (hp : p ≤ n) (h : tailI l n p c = (v, t, 0)) :
    classN v = c ∧ (Lit.int .i64 v).wf = true ∧ t = ((p + (widthN c).toNat : Nat) : Int) ∧ p + (widthN c).toNat ≤ n ∧ win l p (widthN c).toNat = low (IntKind.u64.wrap v).toNat (widthN c).toNat := by
  unfold tailI at h
  have hwr := width_le c
  have hws := widths c
  by_cases c1 : (n : Int) - p < widthN c
  · rw [if_pos c1] at h; simp at h
  rw [if_neg c1] at h
  generalize hw : (widthN c).toNat = w at hws h
  have hx := num_lt_w l p w
  by_cases c2 : classN (sgn (num (win l p w)) w) = c
  · rw [if_pos c2] at h
    simp only [Prod.mk.injEq, and_true] at h
    obtain ⟨rfl, rfl⟩ := h
    obtain ⟨u, hu, hu64⟩ := u64_of_int (sgn (num (win l p w)) w)
    refine ⟨c2, sgn_wf hws hx, rfl, by omega, ?_⟩
    rw [hu, Int.toNat_natCast, ← low_mod, sgn_mod hws hx hu]
    have := low_num (win l p w)
    rw [win_length] at this
    exact this.symm
  · rw [if_neg c2] at h; simp at h
theorem head_inv {l : List Int} {n : Nat} {v t : Int} : ∀ (m p : Nat), p ≤ n → m ≤ 4 → headI l n m p = (v, t, 0) →
    (Lit.int .i64 v).wf = true ∧ ∃ j, classN v = ((4 - m + j : Nat) : Int) ∧ j ≤ m ∧ ∃ q, t = ((p + q : Nat) : Int) ∧ p + q ≤ n ∧ win l p q = List.replicate j true ++ (if classN v < 4 then [false] else []) ++ low (IntKind.u64.wrap v).toNat (widthN (classN v)).toNat := by
  intro m
  induction m with
  | zero =>
    intro p hp hm h
    rw [headI] at h
    obtain ⟨h1, h2, h3, h4, h5⟩ := tail_inv hp h
    refine ⟨h2, 0, by rw [h1]; rfl, Nat.le_refl _, (widthN 4).toNat, h3, h4, ?_⟩
    rw [h1, if_neg (by decide), h5]
    rfl
  | succ m ih =>
    intro p hp hm h
    rw [headI] at h
    by_cases c1 : n ≤ p
    · rw [if_pos c1] at h; simp at h
    rw [if_neg c1] at h
    by_cases hb : bit l p = true
    · rw [if_pos hb] at h
      obtain ⟨h1, j, h2, h3, q, h4, h5, h6⟩ := ih (p + 1) (by omega) (by omega) h
      refine ⟨h1, j + 1, by rw [h2]; omega, by omega, q + 1, by rw [h4]; omega, by omega, ?_⟩
      rw [win_cons l p (q + 1) (by omega), hb, Nat.add_sub_cancel, h6, List.replicate_succ]
      simp
    · rw [if_neg hb] at h
      obtain ⟨h1, h2, h3, h4, h5⟩ := tail_inv (by omega) h
      refine ⟨h2, 0, by rw [h1]; omega, by omega, (widthN (3 - (m : Int))).toNat + 1, by rw [h3]; omega, by omega, ?_⟩
      rw [h1, if_pos (by omega), win_cons l p _ (by omega), Nat.add_sub_cancel, h5, Bool.eq_false_iff.2 hb]
      rfl
theorem head_bits {l : List Int} {n p : Nat} {v t : Int} (hp : p ≤ n) (h : headI l n 4 p = (v, t, 0)) : (Lit.int .i64 v).wf = true ∧ t = ((p + (intBits v).length : Nat) : Int) ∧ p + (intBits v).length ≤ n ∧ win l p (intBits v).length = intBits v := by
  obtain ⟨h1, j, h2, h3, q, h4, h5, h6⟩ := head_inv 4 p hp (Nat.le_refl _) h
  have hj : (classN v).toNat = j := by rw [h2]; simp
  have e : intBits v = win l p q := by
    rw [h6]
    unfold intBits
    rw [hj, ones_eq j h3]
  have e2 : (intBits v).length = q := by rw [e, win_length]
  rw [e2]
  exact ⟨h1, h4, h5, e.symm⟩
end Go.Proofs.Ytpeekkpdglfbbaa.PA

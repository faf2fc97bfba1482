/- The plain law BitsAgain. -/
import Derived.Test.YtpeekkpdglfbbaaGBitAgain
import Derived.Test.YtpeekkpdglfbbaaPAf6
set_option linter.unusedVariables false
namespace Go.Proofs.Ytpeekkpdglfbbaa.Pure
set_option linter.unusedSimpArgs false
attribute [local instance 10] Classical.propDecidable
open Go.RowKit Go.Proofs.Ytpeekkpdglfbbaa.G Go.Proofs.Ytpeekkpdglfbbaa.PA Go.Proofs.YtpeekkpdglfbbaaW.PrintWords Go.Proofs.YtpeekkpdglfbbaaW.PrintLast Go.Proofs.YtpeekkpdglfbbaaW.PrintMore
theorem awake_eq : dryrotlaw02_awake.f = some true := by decide +kernel
theorem tail_err {l : List Int} {n p : Nat} {c v t e : Int} (h : tailI l n p c = (v, t, e)) (he : e ≠ 0) : v = 0 ∧ t = 0 := by
  unfold tailI at h
  split at h
  · simp only [Prod.mk.injEq] at h; exact ⟨h.1.symm, h.2.1.symm⟩
  · split at h
    · simp only [Prod.mk.injEq] at h; exact absurd h.2.2.symm he
    · simp only [Prod.mk.injEq] at h; exact ⟨h.1.symm, h.2.1.symm⟩
theorem head_err {l : List Int} {n : Nat} {v t e : Int} (he : e ≠ 0) : ∀ (m p : Nat), headI l n m p = (v, t, e) → v = 0 ∧ t = 0 := by
  intro m
  induction m with
  | zero => intro p h; rw [headI] at h; exact tail_err h he
  | succ m ih =>
    intro p h
    rw [headI] at h
    split at h
    · simp only [Prod.mk.injEq] at h; exact ⟨h.1.symm, h.2.1.symm⟩
    · split at h
      · exact ih _ h
      · exact tail_err h he
theorem loop {l m : List Int} {n N at_ : Nat} (hl : OkX l n) (hm : OkX m N) (hln : l.length ≤ 100) (hmn : m.length ≤ 1000) (h1 : at_ + N ≤ n) (h2 : win l at_ N = Bs m N) : ∀ (r i k : Nat), i + r = N → 100 + r < k →
    dryrotlaw02_BitsAgain.l0 k (at_ : Int) (N : Int) (i : Int) l (n : Int) m (N : Int) = some true := by
  have hle := hl.le
  have hle2 := hm.le
  intro r
  induction r with
  | zero =>
    intro i k hi hk
    obtain ⟨k, rfl⟩ : ∃ k', k = k' + 1 := ⟨k - 1, by omega⟩
    rw [dryrotlaw02_BitsAgain.l0, if_neg (by omega), awake_eq]
    rfl
  | succ r ih =>
    intro i k hi hk
    obtain ⟨k, rfl⟩ : ∃ k', k = k' + 1 := ⟨k - 1, by omega⟩
    have hb : bit l (at_ + i) = bit m i := by
      have e : (win l at_ N)[i]'(by simp; omega) = (Bs m N)[i]'(by simp; omega) := by simp only [h2]
      rw [win_get _ _ _ _ (by omega), Bs_get _ _ _ (by omega)] at e
      exact e
    have a1 := btakeN hl (by omega) (at_ + i) 1 (by omega) (by decide) k (by omega)
    have a2 := btakeN hm (by omega) i 1 (by omega) (by decide) k (by omega)
    rw [show ((1 : Nat) : Int) = 1 from rfl, if_neg (by omega), win_one] at a1 a2
    have e1 : wrap64 ((at_ : Int) + (i : Int)) = ((at_ + i : Nat) : Int) := w64add (by omega)
    have e2 : wrap64 ((i : Int) + 1) = ((i + 1 : Nat) : Int) := w64add (b := 1) (by omega)
    rw [dryrotlaw02_BitsAgain.l0, if_pos (by omega), e1, e2, a1, Option.bind_some, a2, Option.bind_some, hb, if_pos rfl]
    clear e1 e2 a1 a2
    exact ih (i + 1) k (by omega) (by omega)
theorem BitsAgain : dryrotlaw02_BitsAgain.Pure := by
  intro l0 a1 hmax hsz hwf ha
  refine ⟨100000, ?_⟩
  unfold dryrotlaw02_BitsAgain.f
  obtain ⟨q, hq, hq60, hql⟩ : ∃ q : Nat, mn (l0.length : Int) 60 = (q : Int) ∧ q ≤ 60 ∧ q ≤ l0.length := by
    refine ⟨min l0.length 60, ?_, by omega, by omega⟩
    unfold mn
    split <;> omega
  rw [hq, if_pos (by omega), if_pos (by omega), Int.toNat_natCast]
  have hok : OkL (l0.take q) := fun x hx => okL_wf hwf x (List.mem_of_mem_take hx)
  have hlen : (l0.take q).length = q := by rw [List.length_take]; omega
  generalize l0.take q = L at hok hlen
  subst hlen
  have hV : OkX L (8 * L.length) := ⟨hok, Nat.le_refl _, by omega, fun i h1 h2 => by omega⟩
  have e1 : wrap64 (8 * (L.length : Int)) = ((8 * L.length : Nat) : Int) := by rw [show (8 * (L.length : Int)) = ((8 * L.length : Nat) : Int) by omega]; exact w64n (by omega)
  have e2 : IntKind.u64.wrap (wrap64 (((8 * L.length : Nat) : Int) + 1)) = ((8 * L.length + 1 : Nat) : Int) := by
    rw [show wrap64 (((8 * L.length : Nat) : Int) + 1) = ((8 * L.length + 1 : Nat) : Int) from w64add (b := 1) (by omega)]
    exact u64wrap (by omega)
  obtain ⟨u, hu, hu64⟩ := u64_of_int a1
  have e3 : wrap64 (Int.tmod (u : Int) ((8 * L.length + 1 : Nat) : Int)) = ((u % (8 * L.length + 1) : Nat) : Int) := by
    rw [show Int.tmod (u : Int) ((8 * L.length + 1 : Nat) : Int) = ((u % (8 * L.length + 1) : Nat) : Int) from rfl]
    have := Nat.mod_lt u (show 0 < 8 * L.length + 1 by omega)
    exact w64n (by omega)
  rw [e1, e2, hu, e3]
  have hat := Nat.mod_lt u (show 0 < 8 * L.length + 1 by omega)
  generalize u % (8 * L.length + 1) = p at hat
  clear e1 e2 e3 hu hu64
  generalize hn : 8 * L.length = n at hV hat
  have hTI : takeI L (n : Int) (p : Int) = headI L n 4 p := by
    unfold takeI
    rw [Int.toNat_natCast, Int.toNat_natCast, if_neg]
    intro h'
    rcases h' with h' | h' | h'
    · exact h' ⟨by omega, hV⟩
    · omega
    · omega
  rw [if_neg (by omega), takeInt_eq hok (by omega) n p (by omega) (by omega) _ (by decide), Option.bind_some, hTI]
  obtain ⟨⟨v, t, e⟩, hH⟩ : ∃ r, headI L n 4 p = r := ⟨_, rfl⟩
  rw [hH]
  by_cases he : e = 0
  · subst he
    obtain ⟨b1, b2, b3, b4⟩ := head_bits (by omega) hH
    obtain ⟨l', m, c1, c2, c3, c4⟩ := putInt_ok (l := []) (n := 0) ⟨(fun x hx => by cases hx), by simp, by simp, (fun i h1 h2 => by simp at h2)⟩ (by simp) v
    rw [show ((0 : Nat) : Int) = 0 from rfl] at c1
    rw [Nat.zero_add] at c2
    subst c2 b2
    have hibl : (intBits v).length ≤ 70 := by
      unfold intBits
      have e1 := classN_range v
      have e2 := width_le (classN v)
      simp
      split <;> simp <;> omega
    have hnr := c3.near
    simp only [if_true]
    rw [c1, Option.bind_some]
    simp only [if_true]
    rw [show wrap64 (((p + (intBits v).length : Nat) : Int) - (p : Int)) = ((intBits v).length : Int) by rw [show (((p + (intBits v).length : Nat) : Int) - (p : Int)) = ((intBits v).length : Int) by omega]; exact w64n (by omega)]
    rw [dryrotlaw02_BitsAgain.j0, if_neg (by simp)]
    exact loop hV c3 (by omega) (by omega) b3 (by rw [b4, c4]; simp [Bs, win]) (intBits v).length 0 _ (by omega) (by omega)
  · obtain ⟨rfl, rfl⟩ := head_err he 4 p hH
    simp only [he, if_false]
    rw [rtakeInt_eq hok (by omega) n p (by omega) (by omega) _ (by omega), Option.bind_some, hTI, hH, awake_eq]
    simp
end Go.Proofs.Ytpeekkpdglfbbaa.Pure

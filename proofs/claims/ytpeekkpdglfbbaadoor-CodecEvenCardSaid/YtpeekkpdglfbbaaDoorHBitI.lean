/- What the functions over numbers in bits compute; what was put is taken. -/
import Derived.Test.YtpeekkpdglfbbaaDoorHBitT
namespace Go.Proofs.YtpeekkpdglfbbaaDoor.PA
set_option linter.unusedVariables false
set_option linter.unusedSimpArgs false
attribute [local instance 10] Classical.propDecidable
open Go.RowKit Go.Proofs.YtpeekkpdglfbbaaDoor.G Go.Proofs.YtpeekkpdglfbbaaDoorW.PrintWords Go.Proofs.YtpeekkpdglfbbaaDoorW.PrintLast Go.Proofs.YtpeekkpdglfbbaaDoorW.PrintMore

theorem class_ge (n : Int) (k : Nat) (hk : 8 ≤ k) : bits_class.f k n = some (classN n) := by
  obtain ⟨m, rfl⟩ : ∃ m, k = 8 + m := ⟨k - 8, by omega⟩
  clear hk
  induction m with
  | zero => exact class_eq n
  | succ m ih => exact bits_class.mono n (8 + m) _ ih
/-! ### a number behind bits -/
theorem u64_of_int (v : Int) : ∃ u : Nat, IntKind.u64.wrap v = (u : Int) ∧ u < 18446744073709551616 := by
  refine ⟨(v % 18446744073709551616).toNat, ?_, by omega⟩
  simp only [IntKind.wrap, IntKind.bits, IntKind.signed]
  simp
  omega
/-- the bits of a number -/
def intBits (v : Int) : List Bool := low (2 ^ (classN v).toNat - 1) (classN v).toNat ++ (if classN v < 4 then [false] else []) ++ low (IntKind.u64.wrap v).toNat (widthN (classN v)).toNat
theorem width_le (k : Int) : 0 ≤ widthN k ∧ widthN k ≤ 64 := by
  unfold widthN
  repeat' split
  all_goals omega
theorem mask_k (k : Nat) (hk : k ≤ 4) : IntKind.u64.wrap (shl .u64 1 (k : Int) - 1) = ((2 ^ k - 1 : Nat) : Int) := shl1 k (by omega)
theorem putInt_ok {l : List Int} {n : Nat} (h : OkX l n) (hlen : l.length ≤ 900000000) (v : Int) :
    ∃ (l' : List Int) (m : Nat), bits_PutInt.f l (n : Int) v = some (l', (m : Int), 0) ∧ m = n + (intBits v).length ∧ OkX l' m ∧ Bs l' m = Bs l n ++ intBits v := by
  have hle := h.le
  have hcr := classN_range v
  have hwr := width_le (classN v)
  obtain ⟨u, hu, hu64⟩ := u64_of_int v
  obtain ⟨k, hk⟩ := Int.eq_ofNat_of_zero_le hcr.1
  obtain ⟨wd, hwd⟩ := Int.eq_ofNat_of_zero_le hwr.1
  unfold bits_PutInt.f intBits
  rw [if_pos hlen, can_eq h.bytes (by omega) n (by omega) (by omega), Int.toNat_natCast, decide_eq_true ⟨by omega, h⟩, Option.bind_some, if_pos rfl, hwd, hk, hu, mask_k k (by omega), Int.toNat_natCast, Int.toNat_natCast, Int.toNat_natCast]
  have hk4 : k ≤ 4 := by omega
  have h2k : 2 ^ k - 1 < 18446744073709551616 := Nat.lt_of_le_of_lt (Nat.sub_le _ _) (Nat.lt_of_le_of_lt (Nat.pow_le_pow_right (n := 2) (by decide) hk4) (by decide))
  obtain ⟨l1, a1, b1, c1⟩ := add_ok (2 ^ k - 1) h2k k 70 n l h (by omega) (by omega) (by omega)
  unfold bits_add.f
  rw [a1, Option.bind_some]
  have hl1 := b1.near
  by_cases h4 : (k : Int) < 4
  · rw [if_pos h4, if_pos h4]
    obtain ⟨l2, a2, b2, c2⟩ := add_ok 0 (by decide) 1 70 (n + k) l1 b1 (by omega) (by omega) (by omega)
    rw [show ((0 : Nat) : Int) = 0 from rfl, show ((1 : Nat) : Int) = 1 from rfl] at a2
    rw [a2, Option.bind_some]
    have hl2 := b2.near
    obtain ⟨l3, a3, b3, c3⟩ := add_ok u hu64 wd 70 (n + k + 1) l2 b2 (by omega) (by omega) (by omega)
    rw [a3]
    refine ⟨l3, n + k + 1 + wd, rfl, by simp; omega, b3, ?_⟩
    rw [c3, c2, c1]
    simp [low]
  · rw [if_neg h4, if_neg h4, Option.bind_some]
    obtain ⟨l3, a3, b3, c3⟩ := add_ok u hu64 wd 70 (n + k) l1 b1 (by omega) (by omega) (by omega)
    rw [a3]
    refine ⟨l3, n + k + wd, rfl, by simp; omega, b3, ?_⟩
    rw [c3, c1]
    simp
theorem putInt_bad {l : List Int} (hl : OkL l) (hlen : l.length ≤ 900000000) (N v : Int) (h1 : -9223372036854775808 ≤ N) (h2 : N ≤ 9223372036854775807) (h : ¬ (0 ≤ N ∧ OkX l N.toNat)) : bits_PutInt.f l N v = some ([], 0, 1) := by
  unfold bits_PutInt.f
  rw [if_pos hlen, can_eq hl (by omega) N h1 h2, decide_eq_false h]
  rfl
theorem ones_eq (k : Nat) (h : k ≤ 4) : low (2 ^ k - 1) k = List.replicate k true := by
  have : k = 0 ∨ k = 1 ∨ k = 2 ∨ k = 3 ∨ k = 4 := by omega
  rcases this with h | h | h | h | h <;> subst h <;> decide
/-! ### a number at a place -/
def sgn (x w : Nat) : Int := if 0 < w ∧ 2 ^ (w - 1) ≤ x then (x : Int) - 2 ^ w else (x : Int)
/-- the number of class k that begins at p -/
def tailI (l : List Int) (n p : Nat) (k : Int) : Int × Int × Int :=
  if (n : Int) - p < widthN k then (0, 0, 3) else if classN (sgn (num (win l p (widthN k).toNat)) (widthN k).toNat) = k then (sgn (num (win l p (widthN k).toNat)) (widthN k).toNat, ((p + (widthN k).toNat : Nat) : Int), 0) else (0, 0, 5)
/-- the class's ones from p on; m more may be -/
def headI (l : List Int) (n : Nat) : Nat → Nat → Int × Int × Int
  | 0, p => tailI l n p 4
  | m + 1, p => if n ≤ p then (0, 0, 3) else if bit l p = true then headI l n m (p + 1) else tailI l n (p + 1) (3 - m)
theorem sgn_class {x w : Nat} (hw : w = 0 ∨ w = 7 ∨ w = 12 ∨ w = 32 ∨ w = 64) (hx : x < 2 ^ w) (h0 : 0 < w) :
    shr .i64 (wrap64 (shl .u64 (x : Int) (wrap64 (64 - (w : Int))))) (wrap64 (64 - (w : Int))) = sgn x w := by
  rcases hw with h | h | h | h | h <;> subst h
  · cases h0
  all_goals
    unfold sgn shr shl
    simp only [IntKind.bits]
  · rw [show wrap64 (64 - ((7 : Nat) : Int)) = 57 by decide +kernel, show (min (57 : Int).toNat 64) = 57 from rfl, show ((2 : Int) ^ 57) = 144115188075855872 by decide]
    simp only [IntKind.wrap, IntKind.bits, IntKind.signed, wrap64]
    simp at hx ⊢
    split <;> omega
  · rw [show wrap64 (64 - ((12 : Nat) : Int)) = 52 by decide +kernel, show (min (52 : Int).toNat 64) = 52 from rfl, show ((2 : Int) ^ 52) = 4503599627370496 by decide]
    simp only [IntKind.wrap, IntKind.bits, IntKind.signed, wrap64]
    simp at hx ⊢
    split <;> omega
  · rw [show wrap64 (64 - ((32 : Nat) : Int)) = 32 by decide +kernel, show (min (32 : Int).toNat 64) = 32 from rfl, show ((2 : Int) ^ 32) = 4294967296 by decide]
    simp only [IntKind.wrap, IntKind.bits, IntKind.signed, wrap64]
    simp at hx ⊢
    split <;> omega
  · rw [show wrap64 (64 - ((64 : Nat) : Int)) = 0 by decide +kernel, show (min (0 : Int).toNat 64) = 0 from rfl, show ((2 : Int) ^ 0) = 1 by decide]
    simp only [IntKind.wrap, IntKind.bits, IntKind.signed, wrap64]
    simp at hx ⊢
    split <;> omega

theorem win_one (l : List Int) (p : Nat) : win l p 1 = [bit l p] := by simp [win]
theorem win_cons (l : List Int) (p w : Nat) (h : 0 < w) : win l p w = bit l p :: win l (p + 1) (w - 1) := by
  rw [win_split l p w 1 h, win_one]
  rfl
theorem first_bit (l : List Int) (p w : Nat) (h : 0 < w) : (bit l p = true) ↔ 2 ^ (w - 1) ≤ num (win l p w) := by
  rw [win_cons l p w h, num_cons, win_length]
  have := num_lt (win l (p + 1) (w - 1))
  rw [win_length] at this
  cases bit l p
  · simp; omega
  · simp
theorem widths (c : Int) : (widthN c).toNat = 0 ∨ (widthN c).toNat = 7 ∨ (widthN c).toNat = 12 ∨ (widthN c).toNat = 32 ∨ (widthN c).toNat = 64 := by
  unfold widthN
  repeat' split
  all_goals simp
theorem btakeN {l : List Int} {n : Nat} (h : OkX l n) (hlen : l.length ≤ 1000000) (p c : Nat) (hp : p ≤ n) (hc : c ≤ 64) (k : Nat) (hk : 70 < k) :
    bits_Take.f k l (n : Int) (p : Int) (c : Int) = some (if n - p < c then (0, 3) else (((num (win l p c) : Nat) : Int), 0)) := by
  have hle := h.le
  rw [btake_eq h.bytes (by omega) n p c (by omega) (by omega) k hk]
  unfold takeR
  have hnb : ¬ (¬ (0 ≤ (n : Int) ∧ OkX l (n : Int).toNat) ∨ (c : Int) < 0 ∨ 64 < (c : Int) ∨ (p : Int) < 0 ∨ (n : Int) < p) := by
    rw [Int.toNat_natCast]
    intro h'
    rcases h' with h' | h' | h' | h' | h'
    · exact h' ⟨by omega, h⟩
    all_goals omega
  rw [if_neg hnb, Int.toNat_natCast, Int.toNat_natCast]
  by_cases c1 : n - p < c
  · rw [if_pos c1, if_pos (by omega)]
  · rw [if_neg c1, if_neg (by omega)]
theorem num_lt_w (l : List Int) (p w : Nat) : num (win l p w) < 2 ^ w := by
  have := num_lt (win l p w)
  rwa [win_length] at this
theorem tail_eq {l : List Int} {n : Nat} (h : OkX l n) (hlen : l.length ≤ 1000000) (p : Nat) (hp : p ≤ n) (c : Int) (k : Nat) (hk : 80 < k) : bits_TakeInt.j2 k (p : Int) c l (n : Int) = some (tailI l n p c) := by
  obtain ⟨k, rfl⟩ : ∃ k', k = k' + 1 := ⟨k - 1, by omega⟩
  have hle := h.le
  have hwr := width_le c
  have hws := widths c
  rw [bits_TakeInt.j2, width_eq, Option.bind_some]
  unfold tailI
  obtain ⟨w, hw⟩ := Int.eq_ofNat_of_zero_le hwr.1
  rw [hw] at hws ⊢
  rw [Int.toNat_natCast] at hws ⊢
  rw [btakeN h hlen p w hp (by omega) k (by omega), Option.bind_some]
  have hx := num_lt_w l p w
  by_cases c1 : n - p < w
  · rw [if_pos c1, if_neg (by decide), if_pos (show (n : Int) - p < w by omega)]
  · rw [if_neg c1]
    simp only [if_true]
    rw [if_neg (show ¬ (n : Int) - p < w by omega)]
    have hpw : wrap64 ((p : Int) + (w : Int)) = ((p + w : Nat) : Int) := w64add (by omega)
    rw [hpw]
    clear hpw
    by_cases c2 : (w : Int) > 0
    · rw [if_pos c2, sgn_class hws hx (by omega), class_ge _ k (by omega), Option.bind_some]
      rw [if_pos (by rcases hws with h | h | h | h | h <;> rw [h] <;> decide +kernel)]
      by_cases c3 : classN (sgn (num (win l p w)) w) = c
      · rw [if_pos c3, if_pos c3]
      · rw [if_neg c3, if_neg c3]
    · rw [if_neg c2]
      have : w = 0 := by omega
      subst this
      rw [show num (win l p 0) = 0 from rfl, show wrap64 ((0 : Nat) : Int) = 0 by decide +kernel, class_ge _ k (by omega), Option.bind_some, show sgn 0 0 = 0 by decide]
      by_cases c3 : classN 0 = c
      · rw [if_pos c3, if_pos c3]
      · rw [if_neg c3, if_neg c3]
theorem head_eq {l : List Int} {n : Nat} (h : OkX l n) (hlen : l.length ≤ 1000000) : ∀ (m p k : Nat), p ≤ n → m ≤ 4 → 90 + m < k → bits_TakeInt.l0 k (p : Int) (4 - (m : Int)) l (n : Int) = some (headI l n m p) := by
  intro m
  induction m with
  | zero =>
    intro p k hp hm hk
    obtain ⟨k, rfl⟩ : ∃ k', k = k' + 1 := ⟨k - 1, by omega⟩
    rw [bits_TakeInt.l0, if_neg (by omega), headI, show (4 - ((0 : Nat) : Int)) = 4 from rfl]
    exact tail_eq h hlen p hp 4 k (by omega)
  | succ m ih =>
    intro p k hp hm hk
    obtain ⟨k, rfl⟩ : ∃ k', k = k' + 1 := ⟨k - 1, by omega⟩
    have hle := h.le
    rw [bits_TakeInt.l0, if_pos (by omega), headI]
    have ht := btakeN h hlen p 1 hp (by decide) k (by omega)
    rw [show ((1 : Nat) : Int) = 1 from rfl] at ht
    rw [ht, Option.bind_some]
    by_cases c1 : n ≤ p
    · rw [if_pos (show n - p < 1 by omega), if_pos c1]
      rfl
    · rw [if_neg (show ¬ n - p < 1 by omega), if_neg c1]
      simp only [if_true]
      have e1 : wrap64 ((p : Int) + 1) = ((p + 1 : Nat) : Int) := w64add (b := 1) (by omega)
      have e2 : wrap64 (4 - ((m + 1 : Nat) : Int) + 1) = 4 - (m : Int) := by rw [show (4 - ((m + 1 : Nat) : Int) + 1) = 4 - (m : Int) by omega]; exact w64 (by omega) (by omega)
      rw [e1, e2, win_one]
      clear e1 e2
      cases hb : bit l p
      · rw [show num [false] = 0 from rfl, if_pos (by rfl), if_neg (by decide), show (4 - ((m + 1 : Nat) : Int)) = 3 - (m : Int) by omega]
        exact tail_eq h hlen (p + 1) (by omega) _ k (by omega)
      · rw [show num [true] = 1 from rfl, if_neg (by decide), if_pos rfl]
        exact ih (p + 1) k (by omega) (by omega) (by omega)
/-- the number at a place, or the error -/
noncomputable def takeI (l : List Int) (N p : Int) : Int × Int × Int := if ¬ (0 ≤ N ∧ OkX l N.toNat) ∨ p < 0 ∨ N < p then (0, 0, 1) else headI l N.toNat 4 p.toNat
theorem takeInt_eq {l : List Int} (hl : OkL l) (hlen : l.length ≤ 1000000) (N p : Int) (h1 : -9223372036854775808 ≤ N) (h2 : N ≤ 9223372036854775807) (k : Nat) (hk : 100 < k) : bits_TakeInt.f k l N p = some (takeI l N p) := by
  unfold bits_TakeInt.f takeI
  obtain ⟨k, rfl⟩ : ∃ k', k = k' + 1 := ⟨k - 1, by omega⟩
  rw [can_eq hl (by omega) N h1 h2, Option.bind_some]
  by_cases hV : 0 ≤ N ∧ OkX l N.toNat
  · rw [decide_eq_true hV, if_pos rfl]
    by_cases c3 : p < 0
    · rw [if_pos c3, if_pos (.inr (.inl c3)), bits_TakeInt.j0, if_pos rfl]
    rw [if_neg c3]
    by_cases c4 : p > N
    · rw [decide_eq_true c4, if_pos (.inr (.inr c4)), bits_TakeInt.j0, if_pos rfl]
    have hnb : ¬ (¬ (0 ≤ N ∧ OkX l N.toNat) ∨ p < 0 ∨ N < p) := by intro h; rcases h with h | h | h; exact h hV; all_goals omega
    rw [if_neg hnb, decide_eq_false c4, bits_TakeInt.j0, if_neg (by decide)]
    obtain ⟨q, rfl⟩ := Int.eq_ofNat_of_zero_le (by omega : 0 ≤ p)
    obtain ⟨n, rfl⟩ := Int.eq_ofNat_of_zero_le hV.1
    rw [Int.toNat_natCast] at hV ⊢
    rw [Int.toNat_natCast]
    exact head_eq hV.2 hlen 4 q k (by omega) (by omega) (by omega)
  · rw [decide_eq_false hV, if_neg (by decide), if_pos (.inl hV), bits_TakeInt.j0, if_pos rfl]

/-! ### the reference -/
theorem table5 (c : Int) (h0 : 0 ≤ c) (h4 : c ≤ 4) : rd [0, 7, 12, 32, 64] c = widthN c := by
  have : c = 0 ∨ c = 1 ∨ c = 2 ∨ c = 3 ∨ c = 4 := by omega
  rcases this with h | h | h | h | h <;> subst h <;> rfl
theorem rd_Bs (l : List Int) (n p : Nat) (h : p < n) : rdOf false (Bs l n) (p : Int) = bit l p := by
  unfold rdOf
  rw [Int.toNat_natCast, List.getD_eq_getElem?_getD, List.getElem?_eq_getElem (by simpa using h), Option.getD_some, Bs_get _ _ _ h]
theorem sgn_small {x w : Nat} (hw : w = 0 ∨ w = 7 ∨ w = 12 ∨ w = 32) (hb : x < 2 ^ w) (hn : ¬ (0 < w ∧ 2 ^ (w - 1) ≤ x)) : wrap64 (x : Int) = sgn x w := by
  unfold sgn
  rw [if_neg hn]
  have : 2 ^ w ≤ 2 ^ 32 := Nat.pow_le_pow_right (by decide) (by omega)
  exact w64n (by omega)
theorem sgn_64 {x : Nat} (hb : x < 18446744073709551616) : wrap64 (x : Int) = sgn x 64 := by
  unfold sgn wrap64
  simp
  split <;> omega
theorem okL_wf {l : List Int} (h : ∀ x ∈ l, (Lit.int .u8 x).wf = true) : OkL l := by
  have h1 : okB l = true := okB_wf h
  exact okB_iff.1 h1
theorem win_part {l : List Int} {m q c : Nat} {X Y Z : List Bool} (h : Bs l m = X ++ Y ++ Z) (hX : X.length = q) (hY : Y.length = c) : win l q c = Y := by
  have hm : m = X.length + Y.length + Z.length := by have := congrArg List.length h; simp at this; omega
  rw [win_Bs l m q c (by omega), h, List.append_assoc]
  subst hX hY
  rw [List.take_append, List.take_of_length_le (by omega), List.drop_append_of_le_length (by omega), List.drop_length, List.nil_append, Nat.add_sub_cancel_left, List.take_append_of_le_length (Nat.le_refl _), List.take_length]
theorem bit_part {l : List Int} {m q : Nat} {b : Bool} {X Z : List Bool} (h : Bs l m = X ++ [b] ++ Z) (hX : X.length = q) : bit l q = b := by
  have := win_part h hX (show [b].length = 1 from rfl)
  rw [win_one] at this
  simpa using this
theorem head_ones {l : List Int} {n : Nat} : ∀ (j m p : Nat), j ≤ m → (∀ i, i < j → p + i < n ∧ bit l (p + i) = true) → headI l n m p = headI l n (m - j) (p + j) := by
  intro j
  induction j with
  | zero => intro m p h1 h2; rfl
  | succ j ih =>
    intro m p h1 h2
    obtain ⟨m, rfl⟩ : ∃ m', m = m' + 1 := ⟨m - 1, by omega⟩
    have h0 := h2 0 (by omega)
    rw [Nat.add_zero] at h0
    rw [headI, if_neg (by omega), if_pos h0.2, ih m (p + 1) (by omega) (fun i hi => by have := h2 (i + 1) (by omega); rwa [show p + (i + 1) = p + 1 + i by omega] at this)]
    rw [show m + 1 - (j + 1) = m - j by omega, show p + (j + 1) = p + 1 + j by omega]
theorem sgn_back (v : Int) (hv : (Lit.int .i64 v).wf = true) (u : Nat) (hu : IntKind.u64.wrap v = (u : Int)) : sgn (u % 2 ^ (widthN (classN v)).toNat) (widthN (classN v)).toNat = v := by
  have b := i64_bd hv
  have hu' : (u : Int) = v % 18446744073709551616 := by rw [← hu]; simp [IntKind.wrap, IntKind.bits, IntKind.signed]
  clear hu hv
  unfold sgn
  by_cases a1 : v = 0
  · rw [show classN v = 0 by unfold classN; rw [if_pos a1]]
    simp [widthN]
    omega
  by_cases a2 : -64 ≤ v ∧ v < 64
  · rw [show classN v = 1 by unfold classN; rw [if_neg a1, if_pos a2], show (widthN 1).toNat = 7 from rfl]
    simp
    split <;> omega
  by_cases a3 : -2048 ≤ v ∧ v < 2048
  · rw [show classN v = 2 by unfold classN; rw [if_neg a1, if_neg a2, if_pos a3], show (widthN 2).toNat = 12 from rfl]
    simp
    split <;> omega
  by_cases a4 : -2147483648 ≤ v ∧ v < 2147483648
  · rw [show classN v = 3 by unfold classN; rw [if_neg a1, if_neg a2, if_neg a3, if_pos a4], show (widthN 3).toNat = 32 from rfl]
    simp
    split <;> omega
  · rw [show classN v = 4 by unfold classN; rw [if_neg a1, if_neg a2, if_neg a3, if_neg a4], show (widthN 4).toNat = 64 from rfl]
    simp
    split <;> omega
theorem head_back {l : List Int} {m : Nat} {B : List Bool} (v : Int) (hv : (Lit.int .i64 v).wf = true) (h : Bs l m = B ++ intBits v) : headI l m 4 B.length = (v, (m : Int), 0) := by
  have hcr := classN_range v
  have hwr := width_le (classN v)
  obtain ⟨u, hu, hu64⟩ := u64_of_int v
  have hsg := sgn_back v hv u hu
  obtain ⟨k, hk⟩ := Int.eq_ofNat_of_zero_le hcr.1
  obtain ⟨wd, hwd⟩ := Int.eq_ofNat_of_zero_le hwr.1
  unfold intBits at h
  rw [hwd, hu, Int.toNat_natCast] at h
  rw [hwd, Int.toNat_natCast] at hsg
  rw [hk] at h hwd
  rw [Int.toNat_natCast] at h
  rw [Int.toNat_natCast] at h
  rw [ones_eq k (by omega)] at h
  have hlen : m = B.length + k + (if (k : Int) < 4 then 1 else 0) + wd := by
    have := congrArg List.length h
    simp at this
    rw [this]
    split <;> simp <;> omega
  have hones : ∀ i, i < k → B.length + i < m ∧ bit l (B.length + i) = true := by
    intro i hi
    refine ⟨by omega, ?_⟩
    have e : List.replicate k true = List.replicate i true ++ [true] ++ List.replicate (k - i - 1) true := by
      rw [show [true] = List.replicate 1 true from rfl, List.replicate_append_replicate, List.replicate_append_replicate]
      congr 1
      omega
    exact bit_part (X := B ++ List.replicate i true) (Z := List.replicate (k - i - 1) true ++ (if (k : Int) < 4 then [false] else []) ++ low u wd) (by rw [h, e]; simp) (by simp)
  rw [head_ones k 4 B.length (by omega) hones]
  have tl : ∀ (X : List Bool), Bs l m = X ++ low u wd → tailI l m X.length (k : Int) = (v, (m : Int), 0) := by
    intro X hX
    have hm : m = X.length + wd := by have := congrArg List.length hX; simpa using this
    unfold tailI
    have hw1 : win l X.length wd = low u wd := win_part (X := X) (Y := low u wd) (Z := []) (by rw [hX]; simp) rfl (by simp)
    rw [hwd, Int.toNat_natCast, if_neg (by omega), hw1, num_low, hsg, if_pos hk, ← hm]
  by_cases h4 : (k : Int) < 4
  · rw [if_pos h4] at h hlen
    obtain ⟨j, hj⟩ : ∃ j, 4 - k = j + 1 := ⟨3 - k, by omega⟩
    have hb : bit l (B.length + k) = false := bit_part (X := B ++ List.replicate k true) (Z := low u wd) (by rw [h]; simp) (by simp)
    rw [hj, headI, if_neg (by omega), hb, if_neg (by decide)]
    have := tl (B ++ List.replicate k true ++ [false]) (by rw [h]; simp)
    rw [show (B ++ List.replicate k true ++ [false]).length = B.length + k + 1 by simp; omega] at this
    rw [show (3 - (j : Int)) = (k : Int) by omega]
    exact this
  · rw [if_neg h4] at h hlen
    have hk4 : k = 4 := by omega
    subst hk4
    rw [show 4 - 4 = 0 from rfl, headI]
    have := tl (B ++ List.replicate 4 true) (by rw [h]; simp)
    rw [show (B ++ List.replicate 4 true).length = B.length + 4 by simp] at this
    exact this
theorem put_ok {l : List Int} {n : Nat} (h : OkX l n) (hlen : l.length ≤ 900000000) (v c : Nat) (hv : v < 18446744073709551616) (hc : c ≤ 64) :
    ∃ (l' : List Int), bits_Put.f l (n : Int) (v : Int) (c : Int) = some (l', ((n + c : Nat) : Int), 0) ∧ OkX l' (n + c) ∧ Bs l' (n + c) = Bs l n ++ low v c := by
  have hle := h.le
  obtain ⟨l', a, b, d⟩ := add_ok v hv c 70 n l h hc (by omega) (by omega)
  refine ⟨l', ?_, b, d⟩
  unfold bits_Put.f bits_add.f
  rw [if_pos hlen, can_eq h.bytes (by omega) n (by omega) (by omega), Int.toNat_natCast, decide_eq_true ⟨by omega, h⟩, Option.bind_some, if_pos rfl, if_neg (by omega), if_neg (by omega), a]
  rfl
theorem wrap_u64 (n : Int) : IntKind.u64.wrap n = n % 18446744073709551616 := by simp [IntKind.wrap, IntKind.bits, IntKind.signed]
theorem shift_back (v c : Nat) (hv : v < 18446744073709551616) (h0 : 0 < c) (hc : c ≤ 64) : shr .u64 (shl .u64 (v : Int) ((64 - c : Nat) : Int)) ((64 - c : Nat) : Int) = ((v % 2 ^ c : Nat) : Int) := by
  have e1 : shl .u64 (v : Int) ((64 - c : Nat) : Int) = ((v % 2 ^ c * 2 ^ (64 - c) : Nat) : Int) := by
    unfold shl
    rw [Int.toNat_natCast, Nat.min_eq_left (by simp [IntKind.bits])]
    have : v % 2 ^ c * 2 ^ (64 - c) = v * 2 ^ (64 - c) % 18446744073709551616 := by
      rw [← Nat.mul_mod_mul_right, ← Nat.pow_add, show c + (64 - c) = 64 by omega]
    rw [this, wrap_u64, Int.natCast_emod, Int.natCast_mul, Int.natCast_pow]
    rfl
  rw [e1, shr_nat _ _ _ (by simp [IntKind.bits]), Nat.mul_div_cancel _ (Nat.two_pow_pos _)]
end Go.Proofs.YtpeekkpdglfbbaaDoor.PA

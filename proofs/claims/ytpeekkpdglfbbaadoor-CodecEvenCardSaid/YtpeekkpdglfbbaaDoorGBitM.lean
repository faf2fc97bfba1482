/- Bits in bytes: plain mathematics. A row of bytes says bits, the highest of a byte first. -/
import Derived.Test.YtpeekkpdglfbbaaDoorGBase
namespace Go.Proofs.YtpeekkpdglfbbaaDoor.G
set_option linter.unusedVariables false

def bit (l : List Int) (i : Nat) : Bool := (l.getD (i / 8) 0).toNat.testBit (7 - i % 8)
def win (l : List Int) (p c : Nat) : List Bool := (List.range c).map fun i => bit l (p + i)
def Bs (l : List Int) (n : Nat) : List Bool := win l 0 n
def low (v c : Nat) : List Bool := (List.range c).map fun i => v.testBit (c - 1 - i)
def num (bs : List Bool) : Nat := bs.foldl (fun a b => 2 * a + b.toNat) 0
def OkL (l : List Int) : Prop := ∀ x ∈ l, 0 ≤ x ∧ x < 256
structure OkX (l : List Int) (n : Nat) : Prop where
  bytes : OkL l
  le : n ≤ 8 * l.length
  near : 8 * l.length < n + 8
  tail : ∀ i, n ≤ i → i < 8 * l.length → bit l i = false

@[simp] theorem win_length (l : List Int) (p c : Nat) : (win l p c).length = c := by simp [win]
@[simp] theorem Bs_length (l : List Int) (n : Nat) : (Bs l n).length = n := by simp [Bs]
@[simp] theorem low_length (v c : Nat) : (low v c).length = c := by simp [low]
theorem win_get (l : List Int) (p c i : Nat) (h : i < c) : (win l p c)[i]'(by simpa using h) = bit l (p + i) := by simp [win]
theorem Bs_get (l : List Int) (n i : Nat) (h : i < n) : (Bs l n)[i]'(by simpa using h) = bit l i := by simp [Bs, win]
theorem low_get (v c i : Nat) (h : i < c) : (low v c)[i]'(by simpa using h) = v.testBit (c - 1 - i) := by simp [low]

theorem OkL.at {l : List Int} (h : OkL l) (i : Nat) : 0 ≤ l.getD i 0 ∧ l.getD i 0 < 256 := by
  rw [List.getD_eq_getElem?_getD]
  by_cases hi : i < l.length
  · rw [List.getElem?_eq_getElem hi]
    exact h _ (List.getElem_mem hi)
  · rw [List.getElem?_eq_none (by omega)]
    decide
theorem nat_lt_256_ext {a b : Nat} (ha : a < 256) (hb : b < 256) (h : ∀ j, j < 8 → a.testBit j = b.testBit j) : a = b := by
  apply Nat.eq_of_testBit_eq
  intro j
  by_cases hj : j < 8
  · exact h j hj
  · rw [Nat.testBit_lt_two_pow (Nat.lt_of_lt_of_le ha (Nat.pow_le_pow_right (n := 2) (by decide) (show 8 ≤ j by omega))), Nat.testBit_lt_two_pow (Nat.lt_of_lt_of_le hb (Nat.pow_le_pow_right (n := 2) (by decide) (show 8 ≤ j by omega)))]

/-- bytes are their bits -/
theorem bits_ext {l m : List Int} (hl : OkL l) (hm : OkL m) (hn : l.length = m.length) (h : ∀ i, i < 8 * l.length → bit l i = bit m i) : l = m := by
  apply List.ext_getElem hn
  intro k h1 h2
  have a := hl.at k
  have b := hm.at k
  rw [List.getD_eq_getElem?_getD, List.getElem?_eq_getElem h1, Option.getD_some] at a
  rw [List.getD_eq_getElem?_getD, List.getElem?_eq_getElem h2, Option.getD_some] at b
  have e : l[k].toNat = m[k].toNat := by
    apply nat_lt_256_ext (by omega) (by omega)
    intro j hj
    have := h (8 * k + (7 - j)) (by omega)
    unfold bit at this
    rw [show (8 * k + (7 - j)) / 8 = k by omega, show 7 - (8 * k + (7 - j)) % 8 = j by omega] at this
    simpa [List.getD_eq_getElem?_getD, h1, h2] using this
  omega
theorem OkX.ext {l m : List Int} {n : Nat} (hl : OkX l n) (hm : OkX m n) (h : Bs l n = Bs m n) : l = m := by
  have hn : l.length = m.length := by have := hl.le; have := hl.near; have := hm.le; have := hm.near; omega
  apply bits_ext hl.bytes hm.bytes hn
  intro i hi
  by_cases h1 : i < n
  · have e : (Bs l n)[i]'(by simpa using h1) = (Bs m n)[i]'(by simpa using h1) := by simp only [h]
    rw [Bs_get _ _ _ h1, Bs_get _ _ _ h1] at e
    exact e
  · rw [hl.tail i (by omega) hi, hm.tail i (by omega) (by omega)]

/-- a byte's row with room for one bit at least -/
def addZ (l : List Int) (n : Nat) : List Int := if n % 8 = 0 then l ++ [0] else l
def orAt (l : List Int) (k : Nat) (x : Nat) : List Int := l.set k (((l.getD k 0).toNat ||| x : Nat) : Int)
theorem addZ_len {l : List Int} {n : Nat} (h : OkX l n) : (addZ l n).length = n / 8 + 1 := by
  have := h.le
  have := h.near
  unfold addZ
  split
  · simp; omega
  · omega
theorem bit_addZ {l : List Int} {n : Nat} (h : OkX l n) (i : Nat) (hi : i < 8 * (n / 8 + 1)) : bit (addZ l n) i = if i < n then bit l i else false := by
  have h1 := h.le
  have h2 := h.near
  unfold addZ
  by_cases h0 : n % 8 = 0
  · rw [if_pos h0]
    by_cases hin : i < n
    · rw [if_pos hin]
      unfold bit
      rw [List.getD_eq_getElem?_getD, List.getD_eq_getElem?_getD, List.getElem?_append_left (by omega)]
    · rw [if_neg hin]
      unfold bit
      rw [List.getD_eq_getElem?_getD, List.getElem?_append_right (by omega), show i / 8 - l.length = 0 by omega]
      simp
  · rw [if_neg h0]
    by_cases hin : i < n
    · rw [if_pos hin]
    · rw [if_neg hin]
      exact h.tail i (by omega) (by omega)
theorem bit_orAt (l : List Int) (k x i : Nat) (hk : k < l.length) : bit (orAt l k x) i = (bit l i || (decide (i / 8 = k) && x.testBit (7 - i % 8))) := by
  unfold bit orAt
  by_cases h : i / 8 = k
  · subst h
    rw [List.getD_eq_getElem?_getD, List.getElem?_set_self hk]
    simp [Nat.testBit_or]
  · rw [List.getD_eq_getElem?_getD, List.getElem?_set_ne (by omega)]
    simp [h]

/-- THE STEP: T bits more -/
theorem put_step {l : List Int} {n T X : Nat} (h : OkX l n) (hT : 0 < T) (hT8 : T ≤ 8 - n % 8) (hX : X < 2 ^ T) :
    OkX (orAt (addZ l n) (n / 8) (X * 2 ^ (8 - n % 8 - T))) (n + T) ∧ Bs (orAt (addZ l n) (n / 8) (X * 2 ^ (8 - n % 8 - T))) (n + T) = Bs l n ++ low X T := by
  have hlen := addZ_len h
  have hle := h.le
  have hnr := h.near
  have hol : (orAt (addZ l n) (n / 8) (X * 2 ^ (8 - n % 8 - T))).length = n / 8 + 1 := by unfold orAt; simpa using hlen
  have hXs : X * 2 ^ (8 - n % 8 - T) < 256 := by
    calc X * 2 ^ (8 - n % 8 - T) < 2 ^ T * 2 ^ (8 - n % 8 - T) := Nat.mul_lt_mul_of_pos_right hX (Nat.two_pow_pos _)
      _ = 2 ^ (T + (8 - n % 8 - T)) := (Nat.pow_add _ _ _).symm
      _ ≤ 2 ^ 8 := Nat.pow_le_pow_right (by decide) (by omega)
      _ = 256 := by decide
  have hzok : OkL (addZ l n) := by
    unfold addZ
    split
    · intro x hx
      rcases List.mem_append.1 hx with hx | hx
      · exact h.bytes x hx
      · simp at hx; subst hx; decide
    · exact h.bytes
  have hbit : ∀ i, i < 8 * (n / 8 + 1) → bit (orAt (addZ l n) (n / 8) (X * 2 ^ (8 - n % 8 - T))) i = if i < n then bit l i else if i < n + T then X.testBit (T - 1 - (i - n)) else false := by
    intro i hi
    rw [bit_orAt _ _ _ _ (by omega), bit_addZ h i hi]
    by_cases hin : i < n
    · rw [if_pos hin, if_pos hin]
      by_cases h8 : i / 8 = n / 8
      · rw [Nat.mul_comm, Nat.testBit_two_pow_mul]
        have : decide (8 - n % 8 - T ≤ 7 - i % 8) = true := decide_eq_true (by omega)
        rw [Nat.testBit_lt_two_pow (i := 7 - i % 8 - (8 - n % 8 - T)) (Nat.lt_of_lt_of_le hX (Nat.pow_le_pow_right (by decide) (by omega)))]
        simp
      · simp [h8]
    · rw [if_neg hin, if_neg hin]
      have h8 : i / 8 = n / 8 := by omega
      rw [Nat.mul_comm, Nat.testBit_two_pow_mul]
      by_cases hit : i < n + T
      · rw [if_pos hit, show 7 - i % 8 - (8 - n % 8 - T) = T - 1 - (i - n) by omega]
        rw [show decide (7 - i % 8 ≥ 8 - n % 8 - T) = true from decide_eq_true (by omega)]
        simp [h8]
      · rw [if_neg hit]
        rw [show decide (7 - i % 8 ≥ 8 - n % 8 - T) = false from decide_eq_false (by omega)]
        simp
  refine ⟨⟨?_, by omega, by omega, ?_⟩, ?_⟩
  · intro x hx
    unfold orAt at hx
    rcases List.mem_or_eq_of_mem_set hx with hx | hx
    · exact hzok x hx
    · subst hx
      have := hzok.at (n / 8)
      have : ((addZ l n).getD (n / 8) 0).toNat ||| X * 2 ^ (8 - n % 8 - T) < 2 ^ 8 := Nat.or_lt_two_pow (by omega) (by omega)
      omega
  · intro i h1 h2
    rw [hol] at h2
    rw [hbit i h2, if_neg (by omega), if_neg (by omega)]
  · apply List.ext_getElem (by simp)
    intro i h1 h2
    have hi : i < n + T := by simpa using h1
    rw [Bs_get _ _ _ hi, hbit i (by omega)]
    by_cases hin : i < n
    · rw [if_pos hin, List.getElem_append_left (by simpa using hin), Bs_get _ _ _ hin]
    · rw [if_neg hin, if_pos hi, List.getElem_append_right (by simpa using hin)]
      simp only [Bs_length]
      rw [low_get _ _ _ (by omega)]

theorem low_split (v c T : Nat) (h : T ≤ c) : low v c = low (v / 2 ^ (c - T) % 2 ^ T) T ++ low v (c - T) := by
  apply List.ext_getElem (by simp; omega)
  intro i h1 h2
  have hi : i < c := by simpa using h1
  rw [low_get _ _ _ hi]
  by_cases hiT : i < T
  · rw [List.getElem_append_left (by simpa using hiT), low_get _ _ _ hiT, Nat.testBit_mod_two_pow, Nat.testBit_div_two_pow]
    rw [show decide (T - 1 - i < T) = true from decide_eq_true (by omega), Bool.true_and]
    congr 1
    omega
  · rw [List.getElem_append_right (by simpa using hiT)]
    simp only [low_length]
    rw [low_get _ _ _ (by omega)]
    congr 1
    omega

theorem num_append (a b : List Bool) : num (a ++ b) = num a * 2 ^ b.length + num b := by
  have key : ∀ (b : List Bool) (x : Nat), b.foldl (fun a b => 2 * a + b.toNat) x = x * 2 ^ b.length + b.foldl (fun a b => 2 * a + b.toNat) 0 := by
    intro b
    induction b with
    | nil => intro x; simp
    | cons y b ih =>
      intro x
      simp only [List.foldl_cons, List.length_cons]
      rw [ih (2 * x + y.toNat), ih (2 * 0 + y.toNat)]
      rw [Nat.pow_succ, Nat.add_mul, Nat.add_mul]
      have : 2 * x * 2 ^ b.length = x * (2 ^ b.length * 2) := by rw [Nat.mul_comm 2 x, Nat.mul_assoc, Nat.mul_comm 2]
      omega
  unfold num
  rw [List.foldl_append, key]
theorem num_cons (b : Bool) (a : List Bool) : num (b :: a) = b.toNat * 2 ^ a.length + num a := by
  have := num_append [b] a
  rw [show num [b] = b.toNat by cases b <;> rfl] at this
  exact this
theorem num_lt (a : List Bool) : num a < 2 ^ a.length := by
  induction a with
  | nil => decide
  | cons b a ih =>
    rw [num_cons, List.length_cons, Nat.pow_succ]
    cases b <;> simp <;> omega
theorem low_mod (v c : Nat) : low (v % 2 ^ c) c = low v c := by
  unfold low
  apply List.map_congr_left
  intro i hi
  have := List.mem_range.1 hi
  rw [Nat.testBit_mod_two_pow, show decide (c - 1 - i < c) = true from decide_eq_true (by omega), Bool.true_and]
theorem num_low (v c : Nat) : num (low v c) = v % 2 ^ c := by
  induction c with
  | zero => simp [low, num, Nat.mod_one]
  | succ c ih =>
    rw [low_split v (c + 1) 1 (by omega), num_append]
    simp only [low_length, Nat.add_sub_cancel]
    rw [ih]
    have : num (low (v / 2 ^ c % 2 ^ 1) 1) = v / 2 ^ c % 2 := by
      have h2 : v / 2 ^ c % 2 = 0 ∨ v / 2 ^ c % 2 = 1 := by omega
      rw [Nat.pow_one]
      rcases h2 with h2 | h2 <;> rw [h2] <;> decide
    rw [this, Nat.pow_succ, Nat.mod_mul]
    rw [Nat.mul_comm, Nat.add_comm]
theorem low_num (a : List Bool) : low (num a) a.length = a := by
  induction a with
  | nil => rfl
  | cons b a ih =>
    rw [List.length_cons, low_split _ _ 1 (by omega), num_cons, Nat.add_sub_cancel]
    have h1 : (b.toNat * 2 ^ a.length + num a) / 2 ^ a.length = b.toNat := by
      rw [Nat.mul_comm, Nat.mul_add_div (Nat.two_pow_pos _), Nat.div_eq_of_lt (num_lt a), Nat.add_zero]
    have h2 : low (b.toNat * 2 ^ a.length + num a) a.length = low (num a) a.length := by
      rw [← low_mod, Nat.mul_comm, Nat.mul_add_mod, low_mod]
    rw [h1, h2, ih]
    cases b <;> rfl
theorem win_split (l : List Int) (p c T : Nat) (h : T ≤ c) : win l p c = win l p T ++ win l (p + T) (c - T) := by
  apply List.ext_getElem (by simp; omega)
  intro i h1 h2
  have hi : i < c := by simpa using h1
  rw [win_get _ _ _ _ hi]
  by_cases hiT : i < T
  · rw [List.getElem_append_left (by simpa using hiT), win_get _ _ _ _ hiT]
  · rw [List.getElem_append_right (by simpa using hiT)]
    simp only [win_length]
    rw [win_get _ _ _ _ (by omega)]
    congr 1
    omega
theorem win_Bs (l : List Int) (n p c : Nat) (h : p + c ≤ n) : win l p c = ((Bs l n).take (p + c)).drop p := by
  apply List.ext_getElem (by simp; omega)
  intro i h1 h2
  have hi : i < c := by simpa using h1
  rw [win_get _ _ _ _ hi, List.getElem_drop, List.getElem_take, Bs_get _ _ _ (by omega)]
/-- THE STEP of a reading: T bits of one byte -/
theorem take_step (l : List Int) (p T : Nat) (hb : (l.getD (p / 8) 0).toNat < 256) (hT : T ≤ 8 - p % 8) : num (win l p T) = (l.getD (p / 8) 0).toNat / 2 ^ (8 - p % 8 - T) % 2 ^ T := by
  rw [show win l p T = low ((l.getD (p / 8) 0).toNat / 2 ^ (8 - p % 8 - T)) T from ?_, num_low]
  apply List.ext_getElem (by simp)
  intro i h1 h2
  have hi : i < T := by simpa using h1
  rw [win_get _ _ _ _ hi, low_get _ _ _ hi, Nat.testBit_div_two_pow]
  unfold bit
  rw [show (p + i) / 8 = p / 8 by omega]
  congr 1
  omega
end Go.Proofs.YtpeekkpdglfbbaaDoor.G

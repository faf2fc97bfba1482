/- Lemmas and contracts: Bits in bytes: plain mathematics. A row of bytes says bits, the highest of a byte first. · The contracts of bytes.Clone and bytes.Equal over bytes. · bits.add's contract: a struct's block of the caller's own is changed. · bits.Put's and bits.PutInt's contracts. · bits.PutInt's contract. -/
import Derived.Test.YtbgmnmjokdfmlaaDoorM1
import Derived.WalkSpells
import Derived.Deep.DeepMust
import Derived.Deep.RegionWith
namespace Go.Proofs.YtbgmnmjokdfmlaaDoor.G
set_option linter.unusedVariables false

def bit (l : List Int) (i : Nat) : Bool := (l.getD (i / 8) 0).toNat.testBit (7 - i % 8)
def win (l : List Int) (p c : Nat) : List Bool := (List.range c).map fun i => bit l (p + i)
def Bs (l : List Int) (n : Nat) : List Bool := win l 0 n
def low (v c : Nat) : List Bool := (List.range c).map fun i => v.testBit (c - 1 - i)
def num (bs : List Bool) : Nat := bs.foldl (fun a b => 2 * a + b.toNat) 0
def OkL (l : List Int) : Prop := ∀ x ∈ l, 0 ≤ x ∧ x < 256
structure OkX (l : List Int) (n : Nat) : Prop where
  bytes : OkL l
  le : n ≤ 8 * l.length
  near : 8 * l.length < n + 8
  tail : ∀ i, n ≤ i → i < 8 * l.length → bit l i = false

@[simp] theorem win_length (l : List Int) (p c : Nat) : (win l p c).length = c := by simp [win]
@[simp] theorem Bs_length (l : List Int) (n : Nat) : (Bs l n).length = n := by simp [Bs]
@[simp] theorem low_length (v c : Nat) : (low v c).length = c := by simp [low]
theorem win_get (l : List Int) (p c i : Nat) (h : i < c) : (win l p c)[i]'(by simpa using h) = bit l (p + i) := by simp [win]
theorem Bs_get (l : List Int) (n i : Nat) (h : i < n) : (Bs l n)[i]'(by simpa using h) = bit l i := by simp [Bs, win]
theorem low_get (v c i : Nat) (h : i < c) : (low v c)[i]'(by simpa using h) = v.testBit (c - 1 - i) := by simp [low]

theorem OkL.at {l : List Int} (h : OkL l) (i : Nat) : 0 ≤ l.getD i 0 ∧ l.getD i 0 < 256 := by
  rw [List.getD_eq_getElem?_getD]
  by_cases hi : i < l.length
  · rw [List.getElem?_eq_getElem hi]
    exact h _ (List.getElem_mem hi)
  · rw [List.getElem?_eq_none (by omega)]
    decide
theorem nat_lt_256_ext {a b : Nat} (ha : a < 256) (hb : b < 256) (h : ∀ j, j < 8 → a.testBit j = b.testBit j) : a = b := by
  apply Nat.eq_of_testBit_eq
  intro j
  by_cases hj : j < 8
  · exact h j hj
  · rw [Nat.testBit_lt_two_pow (Nat.lt_of_lt_of_le ha (Nat.pow_le_pow_right (n := 2) (by decide) (show 8 ≤ j by omega))), Nat.testBit_lt_two_pow (Nat.lt_of_lt_of_le hb (Nat.pow_le_pow_right (n := 2) (by decide) (show 8 ≤ j by omega)))]

/-- bytes are their bits -/
theorem bits_ext {l m : List Int} (hl : OkL l) (hm : OkL m) (hn : l.length = m.length) (h : ∀ i, i < 8 * l.length → bit l i = bit m i) : l = m := by
  apply List.ext_getElem hn
  intro k h1 h2
  have a := hl.at k
  have b := hm.at k
  rw [List.getD_eq_getElem?_getD, List.getElem?_eq_getElem h1, Option.getD_some] at a
  rw [List.getD_eq_getElem?_getD, List.getElem?_eq_getElem h2, Option.getD_some] at b
  have e : l[k].toNat = m[k].toNat := by
    apply nat_lt_256_ext (by omega) (by omega)
    intro j hj
    have := h (8 * k + (7 - j)) (by omega)
    unfold bit at this
    rw [show (8 * k + (7 - j)) / 8 = k by omega, show 7 - (8 * k + (7 - j)) % 8 = j by omega] at this
    simpa [List.getD_eq_getElem?_getD, h1, h2] using this
  omega
theorem OkX.ext {l m : List Int} {n : Nat} (hl : OkX l n) (hm : OkX m n) (h : Bs l n = Bs m n) : l = m := by
  have hn : l.length = m.length := by have := hl.le; have := hl.near; have := hm.le; have := hm.near; omega
  apply bits_ext hl.bytes hm.bytes hn
  intro i hi
  by_cases h1 : i < n
  · have e : (Bs l n)[i]'(by simpa using h1) = (Bs m n)[i]'(by simpa using h1) := by simp only [h]
    rw [Bs_get _ _ _ h1, Bs_get _ _ _ h1] at e
    exact e
  · rw [hl.tail i (by omega) hi, hm.tail i (by omega) (by omega)]

/-- a byte's row with room for one bit at least -/
def addZ (l : List Int) (n : Nat) : List Int := if n % 8 = 0 then l ++ [0] else l
def orAt (l : List Int) (k : Nat) (x : Nat) : List Int := l.set k (((l.getD k 0).toNat ||| x : Nat) : Int)
theorem addZ_len {l : List Int} {n : Nat} (h : OkX l n) : (addZ l n).length = n / 8 + 1 := by
  have := h.le
  have := h.near
  unfold addZ
  split
  · simp; omega
  · omega
theorem bit_addZ {l : List Int} {n : Nat} (h : OkX l n) (i : Nat) (hi : i < 8 * (n / 8 + 1)) : bit (addZ l n) i = if i < n then bit l i else false := by
  have h1 := h.le
  have h2 := h.near
  unfold addZ
  by_cases h0 : n % 8 = 0
  · rw [if_pos h0]
    by_cases hin : i < n
    · rw [if_pos hin]
      unfold bit
      rw [List.getD_eq_getElem?_getD, List.getD_eq_getElem?_getD, List.getElem?_append_left (by omega)]
    · rw [if_neg hin]
      unfold bit
      rw [List.getD_eq_getElem?_getD, List.getElem?_append_right (by omega), show i / 8 - l.length = 0 by omega]
      simp
  · rw [if_neg h0]
    by_cases hin : i < n
    · rw [if_pos hin]
    · rw [if_neg hin]
      exact h.tail i (by omega) (by omega)
theorem bit_orAt (l : List Int) (k x i : Nat) (hk : k < l.length) : bit (orAt l k x) i = (bit l i || (decide (i / 8 = k) && x.testBit (7 - i % 8))) := by
  unfold bit orAt
  by_cases h : i / 8 = k
  · subst h
    rw [List.getD_eq_getElem?_getD, List.getElem?_set_self hk]
    simp [Nat.testBit_or]
  · rw [List.getD_eq_getElem?_getD, List.getElem?_set_ne (by omega)]
    simp [h]

/-- THE STEP: T bits more -/
theorem put_step {l : List Int} {n T X : Nat} (h : OkX l n) (hT : 0 < T) (hT8 : T ≤ 8 - n % 8) (hX : X < 2 ^ T) :
    OkX (orAt (addZ l n) (n / 8) (X * 2 ^ (8 - n % 8 - T))) (n + T) ∧ Bs (orAt (addZ l n) (n / 8) (X * 2 ^ (8 - n % 8 - T))) (n + T) = Bs l n ++ low X T := by
  have hlen := addZ_len h
  have hle := h.le
  have hnr := h.near
  have hol : (orAt (addZ l n) (n / 8) (X * 2 ^ (8 - n % 8 - T))).length = n / 8 + 1 := by unfold orAt; simpa using hlen
  have hXs : X * 2 ^ (8 - n % 8 - T) < 256 := by
    calc X * 2 ^ (8 - n % 8 - T) < 2 ^ T * 2 ^ (8 - n % 8 - T) := Nat.mul_lt_mul_of_pos_right hX (Nat.two_pow_pos _)
      _ = 2 ^ (T + (8 - n % 8 - T)) := (Nat.pow_add _ _ _).symm
      _ ≤ 2 ^ 8 := Nat.pow_le_pow_right (by decide) (by omega)
      _ = 256 := by decide
  have hzok : OkL (addZ l n) := by
    unfold addZ
    split
    · intro x hx
      rcases List.mem_append.1 hx with hx | hx
      · exact h.bytes x hx
      · simp at hx; subst hx; decide
    · exact h.bytes
  have hbit : ∀ i, i < 8 * (n / 8 + 1) → bit (orAt (addZ l n) (n / 8) (X * 2 ^ (8 - n % 8 - T))) i = if i < n then bit l i else if i < n + T then X.testBit (T - 1 - (i - n)) else false := by
    intro i hi
    rw [bit_orAt _ _ _ _ (by omega), bit_addZ h i hi]
    by_cases hin : i < n
    · rw [if_pos hin, if_pos hin]
      by_cases h8 : i / 8 = n / 8
      · rw [Nat.mul_comm, Nat.testBit_two_pow_mul]
        have : decide (8 - n % 8 - T ≤ 7 - i % 8) = true := decide_eq_true (by omega)
        rw [Nat.testBit_lt_two_pow (i := 7 - i % 8 - (8 - n % 8 - T)) (Nat.lt_of_lt_of_le hX (Nat.pow_le_pow_right (by decide) (by omega)))]
        simp
      · simp [h8]
    · rw [if_neg hin, if_neg hin]
      have h8 : i / 8 = n / 8 := by omega
      rw [Nat.mul_comm, Nat.testBit_two_pow_mul]
      by_cases hit : i < n + T
      · rw [if_pos hit, show 7 - i % 8 - (8 - n % 8 - T) = T - 1 - (i - n) by omega]
        rw [show decide (7 - i % 8 ≥ 8 - n % 8 - T) = true from decide_eq_true (by omega)]
        simp [h8]
      · rw [if_neg hit]
        rw [show decide (7 - i % 8 ≥ 8 - n % 8 - T) = false from decide_eq_false (by omega)]
        simp
  refine ⟨⟨?_, by omega, by omega, ?_⟩, ?_⟩
  · intro x hx
    unfold orAt at hx
    rcases List.mem_or_eq_of_mem_set hx with hx | hx
    · exact hzok x hx
    · subst hx
      have := hzok.at (n / 8)
      have : ((addZ l n).getD (n / 8) 0).toNat ||| X * 2 ^ (8 - n % 8 - T) < 2 ^ 8 := Nat.or_lt_two_pow (by omega) (by omega)
      omega
  · intro i h1 h2
    rw [hol] at h2
    rw [hbit i h2, if_neg (by omega), if_neg (by omega)]
  · apply List.ext_getElem (by simp)
    intro i h1 h2
    have hi : i < n + T := by simpa using h1
    rw [Bs_get _ _ _ hi, hbit i (by omega)]
    by_cases hin : i < n
    · rw [if_pos hin, List.getElem_append_left (by simpa using hin), Bs_get _ _ _ hin]
    · rw [if_neg hin, if_pos hi, List.getElem_append_right (by simpa using hin)]
      simp only [Bs_length]
      rw [low_get _ _ _ (by omega)]

theorem low_split (v c T : Nat) (h : T ≤ c) : low v c = low (v / 2 ^ (c - T) % 2 ^ T) T ++ low v (c - T) := by
  apply List.ext_getElem (by simp; omega)
  intro i h1 h2
  have hi : i < c := by simpa using h1
  rw [low_get _ _ _ hi]
  by_cases hiT : i < T
  · rw [List.getElem_append_left (by simpa using hiT), low_get _ _ _ hiT, Nat.testBit_mod_two_pow, Nat.testBit_div_two_pow]
    rw [show decide (T - 1 - i < T) = true from decide_eq_true (by omega), Bool.true_and]
    congr 1
    omega
  · rw [List.getElem_append_right (by simpa using hiT)]
    simp only [low_length]
    rw [low_get _ _ _ (by omega)]
    congr 1
    omega

theorem num_append (a b : List Bool) : num (a ++ b) = num a * 2 ^ b.length + num b := by
  have key : ∀ (b : List Bool) (x : Nat), b.foldl (fun a b => 2 * a + b.toNat) x = x * 2 ^ b.length + b.foldl (fun a b => 2 * a + b.toNat) 0 := by
    intro b
    induction b with
    | nil => intro x; simp
    | cons y b ih =>
      intro x
      simp only [List.foldl_cons, List.length_cons]
      rw [ih (2 * x + y.toNat), ih (2 * 0 + y.toNat)]
      rw [Nat.pow_succ, Nat.add_mul, Nat.add_mul]
      have : 2 * x * 2 ^ b.length = x * (2 ^ b.length * 2) := by rw [Nat.mul_comm 2 x, Nat.mul_assoc, Nat.mul_comm 2]
      omega
  unfold num
  rw [List.foldl_append, key]
theorem num_cons (b : Bool) (a : List Bool) : num (b :: a) = b.toNat * 2 ^ a.length + num a := by
  have := num_append [b] a
  rw [show num [b] = b.toNat by cases b <;> rfl] at this
  exact this
theorem num_lt (a : List Bool) : num a < 2 ^ a.length := by
  induction a with
  | nil => decide
  | cons b a ih =>
    rw [num_cons, List.length_cons, Nat.pow_succ]
    cases b <;> simp <;> omega
theorem low_mod (v c : Nat) : low (v % 2 ^ c) c = low v c := by
  unfold low
  apply List.map_congr_left
  intro i hi
  have := List.mem_range.1 hi
  rw [Nat.testBit_mod_two_pow, show decide (c - 1 - i < c) = true from decide_eq_true (by omega), Bool.true_and]
theorem num_low (v c : Nat) : num (low v c) = v % 2 ^ c := by
  induction c with
  | zero => simp [low, num, Nat.mod_one]
  | succ c ih =>
    rw [low_split v (c + 1) 1 (by omega), num_append]
    simp only [low_length, Nat.add_sub_cancel]
    rw [ih]
    have : num (low (v / 2 ^ c % 2 ^ 1) 1) = v / 2 ^ c % 2 := by
      have h2 : v / 2 ^ c % 2 = 0 ∨ v / 2 ^ c % 2 = 1 := by omega
      rw [Nat.pow_one]
      rcases h2 with h2 | h2 <;> rw [h2] <;> decide
    rw [this, Nat.pow_succ, Nat.mod_mul]
    rw [Nat.mul_comm, Nat.add_comm]
theorem low_num (a : List Bool) : low (num a) a.length = a := by
  induction a with
  | nil => rfl
  | cons b a ih =>
    rw [List.length_cons, low_split _ _ 1 (by omega), num_cons, Nat.add_sub_cancel]
    have h1 : (b.toNat * 2 ^ a.length + num a) / 2 ^ a.length = b.toNat := by
      rw [Nat.mul_comm, Nat.mul_add_div (Nat.two_pow_pos _), Nat.div_eq_of_lt (num_lt a), Nat.add_zero]
    have h2 : low (b.toNat * 2 ^ a.length + num a) a.length = low (num a) a.length := by
      rw [← low_mod, Nat.mul_comm, Nat.mul_add_mod, low_mod]
    rw [h1, h2, ih]
    cases b <;> rfl
theorem win_split (l : List Int) (p c T : Nat) (h : T ≤ c) : win l p c = win l p T ++ win l (p + T) (c - T) := by
  apply List.ext_getElem (by simp; omega)
  intro i h1 h2
  have hi : i < c := by simpa using h1
  rw [win_get _ _ _ _ hi]
  by_cases hiT : i < T
  · rw [List.getElem_append_left (by simpa using hiT), win_get _ _ _ _ hiT]
  · rw [List.getElem_append_right (by simpa using hiT)]
    simp only [win_length]
    rw [win_get _ _ _ _ (by omega)]
    congr 1
    omega
theorem win_Bs (l : List Int) (n p c : Nat) (h : p + c ≤ n) : win l p c = ((Bs l n).take (p + c)).drop p := by
  apply List.ext_getElem (by simp; omega)
  intro i h1 h2
  have hi : i < c := by simpa using h1
  rw [win_get _ _ _ _ hi, List.getElem_drop, List.getElem_take, Bs_get _ _ _ (by omega)]
/-- THE STEP of a reading: T bits of one byte -/
theorem take_step (l : List Int) (p T : Nat) (hb : (l.getD (p / 8) 0).toNat < 256) (hT : T ≤ 8 - p % 8) : num (win l p T) = (l.getD (p / 8) 0).toNat / 2 ^ (8 - p % 8 - T) % 2 ^ T := by
  rw [show win l p T = low ((l.getD (p / 8) 0).toNat / 2 ^ (8 - p % 8 - T)) T from ?_, num_low]
  apply List.ext_getElem (by simp)
  intro i h1 h2
  have hi : i < T := by simpa using h1
  rw [win_get _ _ _ _ hi, low_get _ _ _ hi, Nat.testBit_div_two_pow]
  unfold bit
  rw [show (p + i) / 8 = p / 8 by omega]
  congr 1
  omega
end Go.Proofs.YtbgmnmjokdfmlaaDoor.G
namespace Go.Proofs.YtbgmnmjokdfmlaaDoor.G
open Go.RowKit Go.Proofs.YtbgmnmjokdfmlaaDoorW.PrintWords Go.Proofs.YtbgmnmjokdfmlaaDoorW.PrintLast Go.Proofs.YtbgmnmjokdfmlaaDoorW.PrintMore
set_option linter.unusedVariables false
set_option linter.unusedSimpArgs false

def bytes_Equal.f (l0 l1 : List Int) : Option Bool := if okB l0 = true ∧ okB l1 = true then some (decide (l0 = l1)) else none
def bytes_Clone.f (l : List Int) : Option (List Int) := if l.length ≤ 140737488355328 then some l else none

theorem bytes_Equal.self {l : List Int} (h : okB l = true) : bytes_Equal.f l l = some true := by
  unfold bytes_Equal.f
  rw [if_pos ⟨h, h⟩]
  simp
theorem strOfNums_inj {a b : List Int} (ha : okB a = true) (hb : okB b = true) : ((strOfNums a).toList == (strOfNums b).toList) = decide (a = b) := by
  have key : ∀ l : List Int, okB l = true → (strOfNums l).toList.map (fun x => (x.toNat : Int)) = l := by
    intro l hl
    have hl := okB_iff.1 hl
    rw [show (strOfNums l).toList = l.map fun n => UInt8.ofNat n.toNat from (ByteArray.toList_eq _).trans (strOfNums_data l), List.map_map]
    refine (List.map_congr_left fun x hx => ?_).trans (List.map_id l)
    have := hl x hx
    simp only [Function.comp_apply, UInt8.toNat_ofNat', id]
    omega
  by_cases h : a = b
  · subst h; simp
  · rw [decide_eq_false h, beq_eq_false_iff_ne]
    intro he
    exact h (by rw [← key a ha, ← key b hb, he])

theorem bytes_Equal.calls (A0 : Option Addr) (c0 : Nat) (l0 : List Int) (A1 : Option Addr) (c1 : Nat) (l1 : List Int) (r : Bool) (w : World) (hr0 : Kd.C (Kd.int .u8) w A0 l0.length l0) (hc0 : l0.length ≤ c0) (hr1 : Kd.C (Kd.int .u8) w A1 l1.length l1) (hc1 : l1.length ≤ c1) (h : bytes_Equal.f l0 l1 = some r) :
    Calls Tryd.prog 92 #[.slice A0 l0.length c0, .slice A1 l1.length c1] w fun e w' => e = .returned (.bool r) ∧ Drawn0 w w' := by
  unfold bytes_Equal.f at h
  split at h
  case isFalse => cases h
  case isTrue hok =>
  obtain rfl := Option.some.inj h
  clear h
  rw [← strOfNums_inj hok.1 hok.2]
  have hcv3 := Kd.C_string (P := Tryd.prog) (A := A0) (c := c0) Tryd.underlying22 Tryd.underlying5 Tryd.underlying9 hr0
  have hcv4 := Kd.C_string (P := Tryd.prog) (A := A1) (c := c1) Tryd.underlying22 Tryd.underlying5 Tryd.underlying9 hr1
  clear hr0 hc0 hr1 hc1 hok
  go_enter Tryd.func92, Tryd.ntmps92
  go_wp2
  go_ret
  exact ⟨rfl, Drawn0.refl _⟩

set_option maxHeartbeats 800000 in
theorem bytes_Clone.calls (A0 : Option Addr) (c0 : Nat) (l0 : List Int) (r : List Int) (w : World) (hr0 : Kd.C (Kd.int .u8) w A0 l0.length l0) (hc0 : l0.length ≤ c0) (h : bytes_Clone.f l0 = some r) :
    Calls Tryd.prog 114 #[.slice A0 l0.length c0] w fun e w' => ∃ v0_ : Value, e = .returned (v0_) ∧ Kd.R (Kd.int .u8) 5 w' w.heap.size (fun _ => True) v0_ r ∧ Below w.heap.size w w' := by
  unfold bytes_Clone.f at h
  split at h
  case isFalse => cases h
  case isTrue hlen =>
  obtain rfl := Option.some.inj h
  clear h
  have HR := Aside0.mk hr0
  have HL := Aside0.mk hlen
  have hnil := fun W n c => Lib.run_eql_slice_nil (P := Tryd.prog) W 22 5 A0 n c 0 0 Tryd.underlying22
  clear hr0 hc0 hlen
  cases A0 with
  | none =>
    have h0 : l0 = [] := by
      rcases Nat.eq_zero_or_pos l0.length with h0 | h0
      · exact List.eq_nil_of_length_eq_zero h0
      · obtain ⟨ad, e, _⟩ := HR.out.2.2 h0
        cases e
    subst h0
    go_enter Tryd.func114, Tryd.ntmps114
    go_wp2
    go_ret
    exact ⟨_, rfl, Kd.R_nil _ _ _ _ _, Below.refl _ _⟩
  | some ad =>
    go_enter Tryd.func114, Tryd.ntmps114
    have hE := Aside0.mk (R_empty (Kd.int .u8) 5 w.heap.size w (fun _ => True) (Nat.le_refl _) trivial)
    go_wp2_with ((with_reducible refine gate_dst (N := 7) rfl ?_); refine Kd.R_append_row (Value.int .u8) 0 (h1 := fun _ => rfl) w.heap.size rfl (.tmp 5) (.tmp 6) 22 5 (.int .u8 0) 1 rfl Tryd.underlying22 infoU8 rfl (by decide) _ [] l0 (some ad) l0.length c0 (fun _ => True) rfl rfl (fun _ _ => trivial) hE.out (Kd.C_below HR.out (below_alloc (Below.refl _ _) _)) (below_alloc (Below.refl _ _) _) ?hb ?hl ?_; (case hb => simp); (case hl => (have := HL.out; simp; omega)); intro v1 w1 hR1 hB1 hg_ ho_; rw [List.nil_append] at hR1; have HR1 := Aside0.mk hR1; have HB1 := Aside0.mk hB1; clear hR1 hB1 hg_ ho_)
    go_ret
    exact ⟨_, rfl, HR1.out, HB1.out⟩
end Go.Proofs.YtbgmnmjokdfmlaaDoor.G
namespace Go.Proofs.YtbgmnmjokdfmlaaDoor.PA
open Go.RowKit Go.Proofs.YtbgmnmjokdfmlaaDoor.G Go.Proofs.YtbgmnmjokdfmlaaDoorW.PrintWords Go.Proofs.YtbgmnmjokdfmlaaDoorW.PrintLast Go.Proofs.YtbgmnmjokdfmlaaDoorW.PrintMore
set_option linter.unusedVariables false
set_option linter.unusedSimpArgs false
attribute [local go_sem] max2_int min2_int max_two min_two

abbrev bytes_Clone.f := G.bytes_Clone.f
theorem bytes_Clone.calls (A0 : Option Addr) (c0 : Nat) (l0 : List Int) (r : List Int) (w : World) (hr0 : Kd.C (Kd.int .u8) w A0 l0.length l0) (hc0 : l0.length ≤ c0) (h : bytes_Clone.f l0 = some r) :
    Calls Tryd.prog 114 #[.slice A0 l0.length c0] w fun e w' => ∃ v0_ : Value, e = .returned (v0_) ∧ Kd.R (Kd.int .u8) 5 w' w.heap.size (fun _ => True) v0_ r ∧ Below w.heap.size w w' := G.bytes_Clone.calls A0 c0 l0 r w hr0 hc0 h

theorem R_len {α : Type} {d : Kd α} {e base : Nat} {ok : Nat → Prop} {w : World} {v : Value} {xs : List α} (h : d.R e w base ok v xs) : ∃ A c, v = .slice A xs.length c := by
  obtain ⟨A, c, e⟩ := Kd.R_slice h
  exact ⟨A, c, e⟩
/-- all blocks stay but g and those of bytes -/
def KeepT (g : Nat) (w w' : World) : Prop := ∀ (q : Nat) (cs : Array Value) (t : Nat), q ≠ g → 5 ≠ t → w.heap[q]? = some (.cells cs t (0, 0)) → w'.heap[q]? = some (.cells cs t (0, 0))
/-- one round: the bits of one byte -/
def addT (N c : Int) : Int := if c < 8 - N % 8 then c else 8 - N % 8
def addP (N v c : Int) : Int := Go.bits .and .u64 (shr .u64 v (c - addT N c)) (IntKind.u64.wrap ((shl .u64 1 (addT N c)) - 1)) % 256
def addL (l : List Int) (N : Int) : List Int := if N % 8 = 0 then l ++ [0] else l
def addB (N v c : Int) (b : Int) : Int := Go.bits .or .u8 b (shl .u8 (addP N v c) (8 - N % 8 - addT N c))
def addS (l : List Int) (N v c : Int) : List Int := (addL l N).set ((addL l N).length - 1) (addB N v c ((addL l N).getD ((addL l N).length - 1) 0))
def bits_add.l0 : Nat → List Int → Int → Int → Int → Option (List Int × Int)
  | 0, _, _, _, _ => none
  | k + 1, l, N, v, c => if c ≤ 0 then some (l, N) else if 0 ≤ N ∧ N ≤ 8 * l.length ∧ 8 * l.length - N < 8 ∧ l.length < 1000000000 ∧ c ≤ 1000 then bits_add.l0 k (addS l N v c) (N + addT N c) v (c - addT N c) else none
def bits_add.f (l : List Int) (N v c : Int) : Option (List Int × Int) := bits_add.l0 70 l N v c

set_option maxHeartbeats 2000000 in
set_option maxRecDepth 100000 in
theorem bits_add.calls (B g : Nat) (w0 : World) (v0 : Value) (l0 : List Int) (a0 : Int) (a1 : Int) (a2 : Int) (r1 : List Int) (r2 : Int) (w : World) (ho : Kd.R (Kd.int .u8) 5 w B (fun _ => True) v0 l0) (hg : w.heap[g]? = some (.cells #[v0, .int .i64 a0] 99 (0, 0))) (hgB : B ≤ g) (hB : Below B w0 w) (h : bits_add.f l0 a0 a1 a2 = some (r1, r2)) :
    Calls Tryd.prog 115 #[.pointer (some ⟨g, 0, none⟩), .int .u64 a1, .int .i64 a2] w fun e w' => ∃ v' : Value, e = .returned (.tuple #[]) ∧ w'.heap[g]? = some (.cells #[v', .int .i64 r2] 99 (0, 0)) ∧ Kd.R (Kd.int .u8) 5 w' B (fun _ => True) v' r1 ∧ Below B w0 w' ∧ KeepT g w w' := by
  have HO := Aside0.mk ho
  have BK := Aside0.mk hg
  have HB := Aside0.mk hB
  have HGB := Aside0.mk hgB
  have HKT : Aside0 (KeepT g w w) := ⟨fun _ _ _ _ _ h => h⟩
  have H' : Aside0 (bits_add.l0 70 l0 a0 a1 a2 = some (r1, r2)) := ⟨h⟩
  clear ho hg hB hgB h
  go_enter Tryd.func115, Tryd.ntmps115
  go_wp2_with (fail)
  go_loopg [2] 70 (fun kq v2 w' => ∃ (l : List Int) (N c : Int) (u : Value), v2 = .int .i64 c ∧ Aside0 (bits_add.l0 kq l N a1 c = some (r1, r2)) ∧ Aside0 (kq ≤ 70) ∧ Aside0 (Kd.R (Kd.int .u8) 5 w' B (fun _ => True) u l) ∧ Aside0 (w'.heap[g]? = some (.cells #[u, .int .i64 N] 99 (0, 0))) ∧ Aside0 (Below B w0 w') ∧ Aside0 (KeepT g w w'))
  case atStart => exact ⟨l0, a0, a2, v0, rfl, H', ⟨Nat.le_refl _⟩, HO, BK, HB, HKT⟩
  case round =>
    clear H' HO BK HB HKT
    obtain ⟨l, N, c, u, rfl, HA, HK, HO, BK, HB, HKT⟩ := hrel
    cases gk with
    | zero => exact absurd HA.out (by simp [bits_add.l0])
    | succ k1 =>
      have H := HA.out
      clear HA
      simp only [bits_add.l0] at H
      by_cases hc : c ≤ 0
      · rw [if_pos hc] at H
        obtain ⟨rfl, rfl⟩ := Prod.mk.inj (Option.some.inj H)
        have hd : decide (0 < c) = false := decide_eq_false (by omega)
        clear H hc
        go_wp2_with (fail)
        refine bodyPost_end (results_none rfl _ _ _) rfl ?_
        exact ⟨u, rfl, BK.out, HO.out, HB.out, HKT.out⟩
      · rw [if_neg hc] at H
        split at H
        case isFalse => cases H
        case isTrue hg =>
        have HA := Aside0.mk H
        clear H
        obtain ⟨hN0, hN8, hN7, hl9, hc9⟩ := hg
        have hd : decide (0 < c) = true := decide_eq_true (by omega)
        have hm : Int.tmod N 8 = N % 8 := Int.tmod_eq_emod_of_nonneg hN0
        obtain ⟨m, hm'⟩ : ∃ m, N % 8 = m := ⟨_, rfl⟩
        rw [hm'] at hm
        have HM := Aside0.mk hm'
        have hz0 : wr.cell? ⟨g, 0, none⟩ = some u := blk_cell BK.out 0
        have hz1 : wr.cell? ⟨g, 1, none⟩ = some (.int .i64 N) := blk_cell BK.out 1
        have hf0 := blk_frozen BK.out 0
        have hf1 := blk_frozen BK.out 1
        have HN := Aside0.mk (And.intro hN0 (And.intro hN8 (And.intro hN7 (And.intro hl9 hc9))))
        clear hN0 hN8 hN7 hl9 hc9 hm'
        go_upto_if 16 with (fail)
        go_cut [] (fun wc => ∃ (v : Value), Aside0 (Kd.R (Kd.int .u8) 5 wc B (fun _ => True) v (addL l N)) ∧ Aside0 (wc.heap[g]? = some (.cells #[v, .int .i64 N] 99 (0, 0))) ∧ Aside0 (Below B w0 wc) ∧ Aside0 (KeepT g w wc))
        case first =>
          by_cases h0 : m = 0
          · have hb0 : (m == 0) = true := beq_iff_eq.2 h0
            have HAL : Aside0 (addL l N = l ++ [0]) := ⟨by unfold addL; rw [HM.out, if_pos h0]⟩
            clear h0
            go_wp2_with (first | ((with_reducible refine gate_builtin (b := .append) (xs := #[.tmp 21, .tmp 22]) rfl ?_); at_builtin; refine Kd.R_append (Kd.int .u8) (w0 := w0) B rfl (.tmp 21) (.tmp 22) 22 5 (.int .u8 0) 1 rfl Tryd.underlying22 infoU8 rfl (by decide) (by omega) u l 0 [.int .u8 0] (fun _ => True) (fun _ => False) rfl rfl ?aP (fun _ hk => hk.elim) ?aF ?aO ?aB ?aS ?aL ?_; (case aP => exact rfl); (case aB => exact (by repeat (first | (with_reducible first | exact HB.out | apply below_alloc | apply pw_below_drewN | apply below_drew1) | exact HB.out))); (case aF => exact (fun _ _ => trivial)); (case aO => exact (by (with_reducible repeat (first | apply Kd.R_alloc | apply Kd.R_drewN | apply Kd.R_drew)); exact HO.out)); (case aS => exact (by have h_ := HGB.out; have h2_ := blk_lt BK.out; simp; omega)); (case aL => have := HN.out; omega); intro v4 w4 ho hb hg hat; have n0_ := Aside0.mk (blk_grown (g := g) (o := .cells #[u, .int .i64 N] 99 (0, 0)) (by (with_reducible repeat (first | refine blk_drewN ?_ _ | refine blk_drew ?_ | refine blk_alloc ?_ _)); exact BK.out) hg (Kd.R_ne HO.out BK.out (by decide))); have n2_ := Aside0.mk (hb); have n3_ := Aside0.mk (ho); have n4_ : Aside0 (KeepT g w w4) := ⟨fun q cs t hq ht hh => have h_ := HKT.out q cs t hq ht hh; blk_grown (by (with_reducible repeat (first | refine blk_drewN ?_ _ | refine blk_drew ?_ | refine blk_alloc ?_ _)); exact h_) hg (Kd.R_ne HO.out h_ ht)⟩; clear BK; clear HB; clear HO; clear HKT; have HKT := n4_; clear n4_; have BK := n0_; have HB := n2_; have HO := n3_; clear n0_ n2_ n3_; clear ho hb hg hat; have hz0 := blk_cell BK.out 0; have hz1 : w4.cell? ⟨g, 1, none⟩ = some (.int .i64 N) := blk_cell BK.out 1; have hf0 := blk_frozen BK.out 0; have hf1 := blk_frozen BK.out 1; obtain ⟨A4, c4, e4⟩ := Kd.R_slice HO.out; subst e4))
            go_meet
            case rel => 
              have HO1 := HO.out
              rw [show (l ++ [(0 : Int)]).length = l.length + 1 by simp] at HO1
              refine ⟨.slice A4 (l.length + 1) c4, ⟨?_⟩, ⟨?_⟩, ⟨?_⟩, ⟨?_⟩⟩
              · rw [HAL.out]
                exact Kd.R_mono (Kd.R_far (p := ⟨g, 0, none⟩) (Kd.R_types HO1 BK.out (by decide)) (fun _ hk => hk.2) (.slice A4 (l.length + 1) c4)) (fun _ _ => trivial)
              · exact blk_put (cs := #[u, .int .i64 N]) BK.out 0 (.slice A4 (l.length + 1) c4) rfl
              · exact HB.out.setCell HGB.out _
              · exact fun q cs t hq ht hh => blk_far (p := ⟨g, 0, none⟩) (HKT.out q cs t hq ht hh) hq _
          · have hb0 : (m == 0) = false := beq_eq_false_iff_ne.2 h0
            have HAL : Aside0 (addL l N = l) := ⟨by unfold addL; rw [HM.out, if_neg h0]⟩
            clear h0
            go_wp2_with (fail)
            go_meet
            case rel => exact ⟨u, ⟨by rw [HAL.out]; exact HO.out⟩, BK, HB, HKT⟩
        case rest =>
          clear HO BK HB HKT hz0 hz1 hf0 hf1
          obtain ⟨v, HO, BK, HB, HKT⟩ := hcut
          have hpos : 0 < (addL l N).length := by have := HM.out; have := HN.out; unfold addL; split <;> simp <;> omega
          have HS : Aside0 (addS l N a1 c = (addL l N).set ((addL l N).length - 1) (addB N a1 c ((addL l N).getD ((addL l N).length - 1) 0))) := ⟨rfl⟩
          have HX : Aside0 ((addL l N).length ≤ 1000000000) := ⟨by have := HN.out; unfold addL; split <;> simp <;> omega⟩
          generalize addL l N = L at HO hpos HS HX
          obtain ⟨go, co, eo, gb, gl, cl, HGr⟩ := Kd.R_form HO.out hpos
          subst eo
          have hz0 : wc.cell? ⟨g, 0, none⟩ = some (.slice (some ⟨go, 0, none⟩) L.length co) := blk_cell BK.out 0
          have hz1 : wc.cell? ⟨g, 1, none⟩ = some (.int .i64 N) := blk_cell BK.out 1
          have hf0 := blk_frozen BK.out 0
          have hf1 := blk_frozen BK.out 1
          obtain ⟨F, hF⟩ : ∃ F, 8 - m = F := ⟨_, rfl⟩
          have hFw : IntKind.i64.wrap (8 - m) = F := by rw [i64_w, hF]; have := HM.out; exact w64 (by omega) (by omega)
          obtain ⟨T, hT⟩ : ∃ T, (if c < F then c else F) = T := ⟨_, rfl⟩
          have HT : Aside0 (addT N c = T ∧ 0 < T ∧ T ≤ F ∧ T ≤ c ∧ F ≤ 8 ∧ 8 - m = F) := ⟨by have := HM.out; unfold addT; rw [HM.out, hF]; refine ⟨hT, ?_⟩; rw [← hT]; split <;> omega⟩
          obtain ⟨Z, hZ⟩ : ∃ Z, c - T = Z := ⟨_, rfl⟩
          obtain ⟨G, hG⟩ : ∃ G, F - T = G := ⟨_, rfl⟩
          have hb := HN.out
          have hb' := HT.out
          have hm8 := HM.out
          have hZw : IntKind.i64.wrap (c - T) = Z := by rw [i64_w, hZ]; exact w64 (by omega) (by omega)
          have hGw : IntKind.i64.wrap (F - T) = G := by rw [i64_w, hG]; exact w64 (by omega) (by omega)
          have hNw : IntKind.i64.wrap (N + T) = N + T := by rw [i64_w]; exact w64 (by omega) (by omega)
          have hLw : IntKind.i64.wrap ((L.length : Int) - 1) = (L.length : Int) - 1 := by have := HX.out; rw [i64_w]; exact w64 (by omega) (by omega)
          have hZ0 := eq_true (show 0 ≤ Z by omega)
          have hT0 := eq_true (show 0 ≤ T by omega)
          have hG0 := eq_true (show 0 ≤ G by omega)
          obtain ⟨S1, hS1⟩ : ∃ S, shr .u64 a1 Z = S := ⟨_, rfl⟩
          have hS1_ : a1 / 2 ^ min Z.toNat 64 = S1 := hS1
          have hS1z := shr_small (k := .u64) hS1
          obtain ⟨S2, hS2⟩ : ∃ S, shl .u64 1 T = S := ⟨_, rfl⟩
          have hS2u : IntKind.u64.wrap (2 ^ min T.toNat 64) = S2 := by have h_ : IntKind.u64.wrap (1 * 2 ^ min T.toNat 64) = S2 := hS2; rw [Int.one_mul] at h_; exact h_
          have hS2v : T ≤ 64 → IntKind.u64.wrap (2 ^ T.toNat) = S2 := fun hle_ => by have h_ := shl_small (k := .u64) hS2 hle_; rw [Int.one_mul] at h_; exact h_
          obtain ⟨Pp, hP⟩ : ∃ Pp, Go.bits .and .u64 S1 (IntKind.u64.wrap (S2 - 1)) % 256 = Pp := ⟨_, rfl⟩
          have HP : Aside0 (addP N a1 c = Pp) := ⟨by unfold addP; rw [hb'.1, hZ, hS1, hS2, hP]⟩
          obtain ⟨S3, hS3⟩ : ∃ S, shl .u8 Pp G = S := ⟨_, rfl⟩
          have hS3_ : IntKind.u8.wrap (Pp * 2 ^ min G.toNat 8) = S3 := hS3
          have hS3z := shl_small (k := .u8) hS3
          have HBB : Aside0 (∀ b, addB N a1 c b = Go.bits .or .u8 b S3) := ⟨fun b => by unfold addB; rw [HP.out, hb'.1, hm8, hb'.2.2.2.2.2, hG, hS3]⟩
          have HZG : Aside0 (c - T = Z ∧ F - T = G) := ⟨hZ, hG⟩
          clear hF hZ hG hS1 hS2 hS3 hb hb' hm8
          go_wp2_with (fail)
          go_quiet (fail)
          go_wp2_with (fail)
          have BK2 := Aside0.mk (blk_drewN BK.out nq)
          have HO2 := Aside0.mk (Kd.R_drewN HO.out nq)
          have HB2 := Aside0.mk (pw_below_drewN HB.out nq)
          have HKT2 : Aside0 (KeepT g w (wc.drewN nq)) := ⟨fun q cs t hq ht hh => blk_drewN (HKT.out q cs t hq ht hh) nq⟩
          clear HKT BK HO HB HGr hz0 hz1 hf0 hf1 gl
          generalize wc.drewN nq = W2 at BK2 HO2 HB2 HKT2 ⊢
          have hz0 : W2.cell? ⟨g, 0, none⟩ = some (.slice (some ⟨go, 0, none⟩) L.length co) := blk_cell BK2.out 0
          have hz1 : W2.cell? ⟨g, 1, none⟩ = some (.int .i64 N) := blk_cell BK2.out 1
          have hf0 := blk_frozen BK2.out 0
          have hf1 := blk_frozen BK2.out 1
          obtain ⟨I, hI⟩ : ∃ I : Int, (L.length : Int) - 1 = I := ⟨_, rfl⟩
          have hLw' : IntKind.i64.wrap ((L.length : Int) - 1) = I := hLw.trans hI
          clear hLw
          have hI0 := eq_true (show 0 ≤ I by omega)
          have hI1 := eq_true (show I < (L.length : Int) by omega)
          have HII := Aside0.mk hI
          obtain ⟨hx0, hxf⟩ := Kd.R_celln 0 HO2.out I (by omega) (by omega)
          have HQ := Aside0.mk (Kd.R_putn HO2.out I (Go.bits .or .u8 (rd L I) S3))
          rw [show rdOf 0 L I = rd L I from rfl] at hx0
          clear hI
          go_region
          have hgo : g ≠ go := fun e => Kd.R_ne HO2.out BK2.out (by decide) (by rw [e]; rfl)
          have HO3 := Aside0.mk (Kd.R_drew HQ.out)
          have BK3 := Aside0.mk (blk_drew (blk_far (p := ⟨go, I.toNat, none⟩) BK2.out hgo (Value.int .u8 (Go.bits .or .u8 (rd L I) S3))))
          have HB3 := Aside0.mk (below_drew1 (HB2.out.setCell (p := ⟨go, I.toNat, none⟩) gb (Value.int .u8 (Go.bits .or .u8 (rd L I) S3))))
          have HKT3 : Aside0 (KeepT g w (W2.setCell ⟨go, I.toNat, none⟩ (Value.int .u8 (Go.bits .or .u8 (rd L I) S3))).drew) := ⟨fun q cs t hq ht hh => have h_ := HKT2.out q cs t hq ht hh; blk_drew (blk_far (p := ⟨go, I.toNat, none⟩) h_ (fun e => Kd.R_ne HO2.out h_ ht (by rw [e]; rfl)) _)⟩
          clear hz0 hz1 hf0 hf1 hx0 hxf HQ HO2 BK2 HB2 HKT2
          generalize (W2.setCell ⟨go, I.toNat, none⟩ (Value.int .u8 (Go.bits .or .u8 (rd L I) S3))).drew = W3 at HO3 BK3 HB3 HKT3 ⊢
          have hz1 : W3.cell? ⟨g, 1, none⟩ = some (.int .i64 N) := blk_cell BK3.out 1
          have hf1 := blk_frozen BK3.out 1
          go_wp2_with (fail)
          go_roundg k1
          case measure => have := HK.out; omega
          case rel =>
            have ht := HT.out.1
            refine ⟨L.set I.toNat (Go.bits .or .u8 (rd L I) S3), N + T, c - T, .slice (some ⟨go, 0, none⟩) L.length co, by rw [HZG.out.1], ⟨?_⟩, ⟨by have := HK.out; omega⟩, ⟨?_⟩, ⟨?_⟩, ⟨?_⟩, ⟨?_⟩⟩
            · have h_ := HA.out
              rw [ht, HS.out, HBB.out] at h_
              have e1 : I.toNat = L.length - 1 := by have := HII.out; omega
              rw [show rd L I = L.getD (L.length - 1) 0 by unfold rd; rw [e1], e1]
              exact h_
            · exact Kd.R_mono (Kd.R_far (p := ⟨g, 1, none⟩) (Kd.R_types HO3.out BK3.out (by decide)) (fun _ hk => hk.2) (.int .i64 (N + T))) (fun _ _ => trivial)
            · exact blk_put (cs := #[.slice (some ⟨go, 0, none⟩) L.length co, .int .i64 N]) BK3.out 1 (.int .i64 (N + T)) rfl
            · exact HB3.out.setCell HGB.out _
            · exact fun q cs t hq ht hh => blk_far (p := ⟨g, 1, none⟩) (HKT3.out q cs t hq ht hh) hq _
end Go.Proofs.YtbgmnmjokdfmlaaDoor.PA
-- written by wip/gprint.py of this session (it runs the print of the guide's kit over contracts of the session)
namespace Go.Proofs.YtbgmnmjokdfmlaaDoor.PA
open Go.RowKit Go.Proofs.YtbgmnmjokdfmlaaDoorW.PrintWords Go.Proofs.YtbgmnmjokdfmlaaDoorW.PrintLast Go.Proofs.YtbgmnmjokdfmlaaDoorW.PrintMore
attribute [local go_sem] max2_int min2_int max_two min_two max_three min_three max_four min_four   -- for this text's walks alone
set_option linter.unusedVariables false
set_option linter.unusedSimpArgs false

/-! ### bits_Can: function 113 -/
def bits_Can.f (l0_0 : List Int) (a0_1 : Int) : Option (Bool) := if a0_1 < 0 then (some false) else (if a0_1 > (wrap64 (8 * (l0_0.length : Int))) then (some false) else (if (wrap64 ((wrap64 (8 * (l0_0.length : Int))) - a0_1)) > 7 then (some false) else (if (wrap64 ((wrap64 (8 * (l0_0.length : Int))) - a0_1)) = 0 then (some true) else (if 0 ≤ (wrap64 ((l0_0.length : Int) - 1)) then (if (wrap64 ((l0_0.length : Int) - 1)) < (l0_0.length : Int) then (if 0 ≤ (wrap64 ((wrap64 (8 * (l0_0.length : Int))) - a0_1)) then (some ((Go.bits .and .u8 (rd l0_0 (wrap64 ((l0_0.length : Int) - 1))) (((shl .u8 1 (wrap64 ((wrap64 (8 * (l0_0.length : Int))) - a0_1))) - 1) % 256)) == 0)) else (none)) else (none)) else (none)))))
set_option maxHeartbeats 8000000 in
set_option maxRecDepth 100000 in
theorem bits_Can.calls (A0_0 : Option Addr) (c0_0 : Nat) (l0_0 : List Int) (a0_1 : Int) (r : Bool) (w : World) (hr0_0 : Kd.C (Kd.int .u8) w A0_0 l0_0.length l0_0) (hc0_0 : l0_0.length ≤ c0_0) (h : bits_Can.f l0_0 a0_1 = some r) :
    Calls Tryd.prog 113 #[.agg #[.slice A0_0 l0_0.length c0_0, .int .i64 a0_1]] w fun e w' => e = .returned (.bool r) ∧ Below w.heap.size w w' := by
  have hu99 := Tryd.underlying99
  have HR0_0 := Aside0.mk hr0_0
  have HC0_0 := Aside0.mk hc0_0
  clear hr0_0 hc0_0
  have HB := Aside0.mk (Below.refl w.heap.size w)
  have H : (if a0_1 < 0 then (some false) else (if a0_1 > (wrap64 (8 * (l0_0.length : Int))) then (some false) else (if (wrap64 ((wrap64 (8 * (l0_0.length : Int))) - a0_1)) > 7 then (some false) else (if (wrap64 ((wrap64 (8 * (l0_0.length : Int))) - a0_1)) = 0 then (some true) else (if 0 ≤ (wrap64 ((l0_0.length : Int) - 1)) then (if (wrap64 ((l0_0.length : Int) - 1)) < (l0_0.length : Int) then (if 0 ≤ (wrap64 ((wrap64 (8 * (l0_0.length : Int))) - a0_1)) then (some ((Go.bits .and .u8 (rd l0_0 (wrap64 ((l0_0.length : Int) - 1))) (((shl .u8 1 (wrap64 ((wrap64 (8 * (l0_0.length : Int))) - a0_1))) - 1) % 256)) == 0)) else (none)) else (none)) else (none)))))) = some r := h
  clear h
  by_cases c2 : a0_1 < 0
  · rw [if_pos c2] at H
    have c2b0 : decide (a0_1 < 0) = true := decide_eq_true c2
    clear c2
    obtain rfl := Option.some.inj H
    go_enter Tryd.func113, Tryd.ntmps113
    go_wp2_with (first | ((with_reducible refine gate_dst (N := 1) rfl ?_); (try (refine gate_guard (by rfl) ?_; dsimp only)); refine box_event ?hg (N := 1) ?hd (cs := #[.slice A0_0 l0_0.length c0_0, .int .i64 a0_1]) (t := 99) ?hr ?_; (case hd => rfl); (case hg => rfl); (case hr => first | (go_simp; done) | (go_simp; rfl)); intro gb113 hg w3 hbox hb; have n0_ := Aside0.mk (below_step (by repeat (first | (with_reducible first | exact HB.out | apply below_alloc | apply pw_below_drewN | apply below_drew1) | exact HB.out)) hb); have n1_ := Aside0.mk (hbox); have n2_ := Aside0.mk ((by rw [hg]; exact (below_size (by repeat (first | (with_reducible first | exact HB.out | apply below_alloc | apply pw_below_drewN | apply below_drew1) | exact HB.out))) : w.heap.size ≤ gb113)); have n3_ := Aside0.mk ((by rw [hg]; exact (below_size (by repeat (first | (with_reducible first | exact HB.out | apply below_alloc | apply pw_below_drewN | apply below_drew1) | exact HB.out))) : w.heap.size ≤ gb113)); clear HB; have HB := n0_; have BK113 := n1_; have GW113 := n2_; have GE113 := n3_; clear n0_ n1_ n2_ n3_; clear hb hbox hg; have hcz4_0 : w3.cell? ⟨gb113, 0, none⟩ = some (.slice A0_0 l0_0.length c0_0) := (blk_cell BK113.out 0).trans rfl; have hcz4_1 : w3.cell? ⟨gb113, 1, none⟩ = some (.int .i64 a0_1) := (blk_cell BK113.out 1).trans rfl; have hfz4_0 := blk_frozen BK113.out 0; have hfz4_1 := blk_frozen BK113.out 1))
    repeat (go_quiet (first | ((with_reducible refine gate_dst (N := 1) rfl ?_); (try (refine gate_guard (by rfl) ?_; dsimp only)); refine box_event ?hg (N := 1) ?hd (cs := #[.slice A0_0 l0_0.length c0_0, .int .i64 a0_1]) (t := 99) ?hr ?_; (case hd => rfl); (case hg => rfl); (case hr => first | (go_simp; done) | (go_simp; rfl)); intro gb113 hg w3 hbox hb; have n0_ := Aside0.mk (below_step (by repeat (first | (with_reducible first | exact HB.out | apply below_alloc | apply pw_below_drewN | apply below_drew1) | exact HB.out)) hb); have n1_ := Aside0.mk (hbox); have n2_ := Aside0.mk ((by rw [hg]; exact (below_size (by repeat (first | (with_reducible first | exact HB.out | apply below_alloc | apply pw_below_drewN | apply below_drew1) | exact HB.out))) : w.heap.size ≤ gb113)); have n3_ := Aside0.mk ((by rw [hg]; exact (below_size (by repeat (first | (with_reducible first | exact HB.out | apply below_alloc | apply pw_below_drewN | apply below_drew1) | exact HB.out))) : w.heap.size ≤ gb113)); clear HB; have HB := n0_; have BK113 := n1_; have GW113 := n2_; have GE113 := n3_; clear n0_ n1_ n2_ n3_; clear hb hbox hg; have hcz4_0 : w3.cell? ⟨gb113, 0, none⟩ = some (.slice A0_0 l0_0.length c0_0) := (blk_cell BK113.out 0).trans rfl; have hcz4_1 : w3.cell? ⟨gb113, 1, none⟩ = some (.int .i64 a0_1) := (blk_cell BK113.out 1).trans rfl; have hfz4_0 := blk_frozen BK113.out 0; have hfz4_1 := blk_frozen BK113.out 1)); try go_wp2_with (first | ((with_reducible refine gate_dst (N := 1) rfl ?_); (try (refine gate_guard (by rfl) ?_; dsimp only)); refine box_event ?hg (N := 1) ?hd (cs := #[.slice A0_0 l0_0.length c0_0, .int .i64 a0_1]) (t := 99) ?hr ?_; (case hd => rfl); (case hg => rfl); (case hr => first | (go_simp; done) | (go_simp; rfl)); intro gb113 hg w3 hbox hb; have n0_ := Aside0.mk (below_step (by repeat (first | (with_reducible first | exact HB.out | apply below_alloc | apply pw_below_drewN | apply below_drew1) | exact HB.out)) hb); have n1_ := Aside0.mk (hbox); have n2_ := Aside0.mk ((by rw [hg]; exact (below_size (by repeat (first | (with_reducible first | exact HB.out | apply below_alloc | apply pw_below_drewN | apply below_drew1) | exact HB.out))) : w.heap.size ≤ gb113)); have n3_ := Aside0.mk ((by rw [hg]; exact (below_size (by repeat (first | (with_reducible first | exact HB.out | apply below_alloc | apply pw_below_drewN | apply below_drew1) | exact HB.out))) : w.heap.size ≤ gb113)); clear HB; have HB := n0_; have BK113 := n1_; have GW113 := n2_; have GE113 := n3_; clear n0_ n1_ n2_ n3_; clear hb hbox hg; have hcz4_0 : w3.cell? ⟨gb113, 0, none⟩ = some (.slice A0_0 l0_0.length c0_0) := (blk_cell BK113.out 0).trans rfl; have hcz4_1 : w3.cell? ⟨gb113, 1, none⟩ = some (.int .i64 a0_1) := (blk_cell BK113.out 1).trans rfl; have hfz4_0 := blk_frozen BK113.out 0; have hfz4_1 := blk_frozen BK113.out 1)))
    go_ret
    exact ⟨by first | rfl | (simp [errW_none, errW_some] <;> rfl) | (simp [*, errW_none, errW_some] <;> rfl), by repeat (first | (with_reducible first | exact HB.out | apply below_alloc | apply pw_below_drewN | apply below_drew1 | refine below_set ?_ GE113.out) | exact HB.out)⟩
  · rw [if_neg c2] at H
    have c2b0 : decide (a0_1 < 0) = false := decide_eq_false c2
    clear c2
    by_cases c5 : a0_1 > (wrap64 (8 * (l0_0.length : Int)))
    · rw [if_pos c5] at H
      have c5b0 : decide ((wrap64 (8 * (l0_0.length : Int))) < a0_1) = true := decide_eq_true c5
      clear c5
      obtain rfl := Option.some.inj H
      go_enter Tryd.func113, Tryd.ntmps113
      go_wp2_with (first | ((with_reducible refine gate_dst (N := 1) rfl ?_); (try (refine gate_guard (by rfl) ?_; dsimp only)); refine box_event ?hg (N := 1) ?hd (cs := #[.slice A0_0 l0_0.length c0_0, .int .i64 a0_1]) (t := 99) ?hr ?_; (case hd => rfl); (case hg => rfl); (case hr => first | (go_simp; done) | (go_simp; rfl)); intro gb113 hg w6 hbox hb; have n0_ := Aside0.mk (below_step (by repeat (first | (with_reducible first | exact HB.out | apply below_alloc | apply pw_below_drewN | apply below_drew1) | exact HB.out)) hb); have n1_ := Aside0.mk (hbox); have n2_ := Aside0.mk ((by rw [hg]; exact (below_size (by repeat (first | (with_reducible first | exact HB.out | apply below_alloc | apply pw_below_drewN | apply below_drew1) | exact HB.out))) : w.heap.size ≤ gb113)); have n3_ := Aside0.mk ((by rw [hg]; exact (below_size (by repeat (first | (with_reducible first | exact HB.out | apply below_alloc | apply pw_below_drewN | apply below_drew1) | exact HB.out))) : w.heap.size ≤ gb113)); clear HB; have HB := n0_; have BK113 := n1_; have GW113 := n2_; have GE113 := n3_; clear n0_ n1_ n2_ n3_; clear hb hbox hg; have hcz7_0 : w6.cell? ⟨gb113, 0, none⟩ = some (.slice A0_0 l0_0.length c0_0) := (blk_cell BK113.out 0).trans rfl; have hcz7_1 : w6.cell? ⟨gb113, 1, none⟩ = some (.int .i64 a0_1) := (blk_cell BK113.out 1).trans rfl; have hfz7_0 := blk_frozen BK113.out 0; have hfz7_1 := blk_frozen BK113.out 1))
      repeat (go_quiet (first | ((with_reducible refine gate_dst (N := 1) rfl ?_); (try (refine gate_guard (by rfl) ?_; dsimp only)); refine box_event ?hg (N := 1) ?hd (cs := #[.slice A0_0 l0_0.length c0_0, .int .i64 a0_1]) (t := 99) ?hr ?_; (case hd => rfl); (case hg => rfl); (case hr => first | (go_simp; done) | (go_simp; rfl)); intro gb113 hg w6 hbox hb; have n0_ := Aside0.mk (below_step (by repeat (first | (with_reducible first | exact HB.out | apply below_alloc | apply pw_below_drewN | apply below_drew1) | exact HB.out)) hb); have n1_ := Aside0.mk (hbox); have n2_ := Aside0.mk ((by rw [hg]; exact (below_size (by repeat (first | (with_reducible first | exact HB.out | apply below_alloc | apply pw_below_drewN | apply below_drew1) | exact HB.out))) : w.heap.size ≤ gb113)); have n3_ := Aside0.mk ((by rw [hg]; exact (below_size (by repeat (first | (with_reducible first | exact HB.out | apply below_alloc | apply pw_below_drewN | apply below_drew1) | exact HB.out))) : w.heap.size ≤ gb113)); clear HB; have HB := n0_; have BK113 := n1_; have GW113 := n2_; have GE113 := n3_; clear n0_ n1_ n2_ n3_; clear hb hbox hg; have hcz7_0 : w6.cell? ⟨gb113, 0, none⟩ = some (.slice A0_0 l0_0.length c0_0) := (blk_cell BK113.out 0).trans rfl; have hcz7_1 : w6.cell? ⟨gb113, 1, none⟩ = some (.int .i64 a0_1) := (blk_cell BK113.out 1).trans rfl; have hfz7_0 := blk_frozen BK113.out 0; have hfz7_1 := blk_frozen BK113.out 1)); try go_wp2_with (first | ((with_reducible refine gate_dst (N := 1) rfl ?_); (try (refine gate_guard (by rfl) ?_; dsimp only)); refine box_event ?hg (N := 1) ?hd (cs := #[.slice A0_0 l0_0.length c0_0, .int .i64 a0_1]) (t := 99) ?hr ?_; (case hd => rfl); (case hg => rfl); (case hr => first | (go_simp; done) | (go_simp; rfl)); intro gb113 hg w6 hbox hb; have n0_ := Aside0.mk (below_step (by repeat (first | (with_reducible first | exact HB.out | apply below_alloc | apply pw_below_drewN | apply below_drew1) | exact HB.out)) hb); have n1_ := Aside0.mk (hbox); have n2_ := Aside0.mk ((by rw [hg]; exact (below_size (by repeat (first | (with_reducible first | exact HB.out | apply below_alloc | apply pw_below_drewN | apply below_drew1) | exact HB.out))) : w.heap.size ≤ gb113)); have n3_ := Aside0.mk ((by rw [hg]; exact (below_size (by repeat (first | (with_reducible first | exact HB.out | apply below_alloc | apply pw_below_drewN | apply below_drew1) | exact HB.out))) : w.heap.size ≤ gb113)); clear HB; have HB := n0_; have BK113 := n1_; have GW113 := n2_; have GE113 := n3_; clear n0_ n1_ n2_ n3_; clear hb hbox hg; have hcz7_0 : w6.cell? ⟨gb113, 0, none⟩ = some (.slice A0_0 l0_0.length c0_0) := (blk_cell BK113.out 0).trans rfl; have hcz7_1 : w6.cell? ⟨gb113, 1, none⟩ = some (.int .i64 a0_1) := (blk_cell BK113.out 1).trans rfl; have hfz7_0 := blk_frozen BK113.out 0; have hfz7_1 := blk_frozen BK113.out 1)))
      go_ret
      exact ⟨by first | rfl | (simp [errW_none, errW_some] <;> rfl) | (simp [*, errW_none, errW_some] <;> rfl), by repeat (first | (with_reducible first | exact HB.out | apply below_alloc | apply pw_below_drewN | apply below_drew1 | refine below_set ?_ GE113.out) | exact HB.out)⟩
    · rw [if_neg c5] at H
      have c5b0 : decide ((wrap64 (8 * (l0_0.length : Int))) < a0_1) = false := decide_eq_false c5
      clear c5
      by_cases c8 : (wrap64 ((wrap64 (8 * (l0_0.length : Int))) - a0_1)) > 7
      · rw [if_pos c8] at H
        have c8b0 : decide (7 < (wrap64 ((wrap64 (8 * (l0_0.length : Int))) - a0_1))) = true := decide_eq_true c8
        clear c8
        obtain rfl := Option.some.inj H
        go_enter Tryd.func113, Tryd.ntmps113
        go_wp2_with (first | ((with_reducible refine gate_dst (N := 1) rfl ?_); (try (refine gate_guard (by rfl) ?_; dsimp only)); refine box_event ?hg (N := 1) ?hd (cs := #[.slice A0_0 l0_0.length c0_0, .int .i64 a0_1]) (t := 99) ?hr ?_; (case hd => rfl); (case hg => rfl); (case hr => first | (go_simp; done) | (go_simp; rfl)); intro gb113 hg w9 hbox hb; have n0_ := Aside0.mk (below_step (by repeat (first | (with_reducible first | exact HB.out | apply below_alloc | apply pw_below_drewN | apply below_drew1) | exact HB.out)) hb); have n1_ := Aside0.mk (hbox); have n2_ := Aside0.mk ((by rw [hg]; exact (below_size (by repeat (first | (with_reducible first | exact HB.out | apply below_alloc | apply pw_below_drewN | apply below_drew1) | exact HB.out))) : w.heap.size ≤ gb113)); have n3_ := Aside0.mk ((by rw [hg]; exact (below_size (by repeat (first | (with_reducible first | exact HB.out | apply below_alloc | apply pw_below_drewN | apply below_drew1) | exact HB.out))) : w.heap.size ≤ gb113)); clear HB; have HB := n0_; have BK113 := n1_; have GW113 := n2_; have GE113 := n3_; clear n0_ n1_ n2_ n3_; clear hb hbox hg; have hcz10_0 : w9.cell? ⟨gb113, 0, none⟩ = some (.slice A0_0 l0_0.length c0_0) := (blk_cell BK113.out 0).trans rfl; have hcz10_1 : w9.cell? ⟨gb113, 1, none⟩ = some (.int .i64 a0_1) := (blk_cell BK113.out 1).trans rfl; have hfz10_0 := blk_frozen BK113.out 0; have hfz10_1 := blk_frozen BK113.out 1))
        repeat (go_quiet (first | ((with_reducible refine gate_dst (N := 1) rfl ?_); (try (refine gate_guard (by rfl) ?_; dsimp only)); refine box_event ?hg (N := 1) ?hd (cs := #[.slice A0_0 l0_0.length c0_0, .int .i64 a0_1]) (t := 99) ?hr ?_; (case hd => rfl); (case hg => rfl); (case hr => first | (go_simp; done) | (go_simp; rfl)); intro gb113 hg w9 hbox hb; have n0_ := Aside0.mk (below_step (by repeat (first | (with_reducible first | exact HB.out | apply below_alloc | apply pw_below_drewN | apply below_drew1) | exact HB.out)) hb); have n1_ := Aside0.mk (hbox); have n2_ := Aside0.mk ((by rw [hg]; exact (below_size (by repeat (first | (with_reducible first | exact HB.out | apply below_alloc | apply pw_below_drewN | apply below_drew1) | exact HB.out))) : w.heap.size ≤ gb113)); have n3_ := Aside0.mk ((by rw [hg]; exact (below_size (by repeat (first | (with_reducible first | exact HB.out | apply below_alloc | apply pw_below_drewN | apply below_drew1) | exact HB.out))) : w.heap.size ≤ gb113)); clear HB; have HB := n0_; have BK113 := n1_; have GW113 := n2_; have GE113 := n3_; clear n0_ n1_ n2_ n3_; clear hb hbox hg; have hcz10_0 : w9.cell? ⟨gb113, 0, none⟩ = some (.slice A0_0 l0_0.length c0_0) := (blk_cell BK113.out 0).trans rfl; have hcz10_1 : w9.cell? ⟨gb113, 1, none⟩ = some (.int .i64 a0_1) := (blk_cell BK113.out 1).trans rfl; have hfz10_0 := blk_frozen BK113.out 0; have hfz10_1 := blk_frozen BK113.out 1)); try go_wp2_with (first | ((with_reducible refine gate_dst (N := 1) rfl ?_); (try (refine gate_guard (by rfl) ?_; dsimp only)); refine box_event ?hg (N := 1) ?hd (cs := #[.slice A0_0 l0_0.length c0_0, .int .i64 a0_1]) (t := 99) ?hr ?_; (case hd => rfl); (case hg => rfl); (case hr => first | (go_simp; done) | (go_simp; rfl)); intro gb113 hg w9 hbox hb; have n0_ := Aside0.mk (below_step (by repeat (first | (with_reducible first | exact HB.out | apply below_alloc | apply pw_below_drewN | apply below_drew1) | exact HB.out)) hb); have n1_ := Aside0.mk (hbox); have n2_ := Aside0.mk ((by rw [hg]; exact (below_size (by repeat (first | (with_reducible first | exact HB.out | apply below_alloc | apply pw_below_drewN | apply below_drew1) | exact HB.out))) : w.heap.size ≤ gb113)); have n3_ := Aside0.mk ((by rw [hg]; exact (below_size (by repeat (first | (with_reducible first | exact HB.out | apply below_alloc | apply pw_below_drewN | apply below_drew1) | exact HB.out))) : w.heap.size ≤ gb113)); clear HB; have HB := n0_; have BK113 := n1_; have GW113 := n2_; have GE113 := n3_; clear n0_ n1_ n2_ n3_; clear hb hbox hg; have hcz10_0 : w9.cell? ⟨gb113, 0, none⟩ = some (.slice A0_0 l0_0.length c0_0) := (blk_cell BK113.out 0).trans rfl; have hcz10_1 : w9.cell? ⟨gb113, 1, none⟩ = some (.int .i64 a0_1) := (blk_cell BK113.out 1).trans rfl; have hfz10_0 := blk_frozen BK113.out 0; have hfz10_1 := blk_frozen BK113.out 1)))
        go_ret
        exact ⟨by first | rfl | (simp [errW_none, errW_some] <;> rfl) | (simp [*, errW_none, errW_some] <;> rfl), by repeat (first | (with_reducible first | exact HB.out | apply below_alloc | apply pw_below_drewN | apply below_drew1 | refine below_set ?_ GE113.out) | exact HB.out)⟩
      · rw [if_neg c8] at H
        have c8b0 : decide (7 < (wrap64 ((wrap64 (8 * (l0_0.length : Int))) - a0_1))) = false := decide_eq_false c8
        clear c8
        by_cases c11 : (wrap64 ((wrap64 (8 * (l0_0.length : Int))) - a0_1)) = 0
        · rw [if_pos c11] at H
          have c11b0 : ((wrap64 ((wrap64 (8 * (l0_0.length : Int))) - a0_1)) == 0) = true := beq_iff_eq.mpr c11
          have c11b1 : ((wrap64 ((wrap64 (8 * (l0_0.length : Int))) - a0_1)) != 0) = false := bne_eq_false_iff_eq.mpr c11
          clear c11
          obtain rfl := Option.some.inj H
          go_enter Tryd.func113, Tryd.ntmps113
          go_wp2_with (first | ((with_reducible refine gate_dst (N := 1) rfl ?_); (try (refine gate_guard (by rfl) ?_; dsimp only)); refine box_event ?hg (N := 1) ?hd (cs := #[.slice A0_0 l0_0.length c0_0, .int .i64 a0_1]) (t := 99) ?hr ?_; (case hd => rfl); (case hg => rfl); (case hr => first | (go_simp; done) | (go_simp; rfl)); intro gb113 hg w12 hbox hb; have n0_ := Aside0.mk (below_step (by repeat (first | (with_reducible first | exact HB.out | apply below_alloc | apply pw_below_drewN | apply below_drew1) | exact HB.out)) hb); have n1_ := Aside0.mk (hbox); have n2_ := Aside0.mk ((by rw [hg]; exact (below_size (by repeat (first | (with_reducible first | exact HB.out | apply below_alloc | apply pw_below_drewN | apply below_drew1) | exact HB.out))) : w.heap.size ≤ gb113)); have n3_ := Aside0.mk ((by rw [hg]; exact (below_size (by repeat (first | (with_reducible first | exact HB.out | apply below_alloc | apply pw_below_drewN | apply below_drew1) | exact HB.out))) : w.heap.size ≤ gb113)); clear HB; have HB := n0_; have BK113 := n1_; have GW113 := n2_; have GE113 := n3_; clear n0_ n1_ n2_ n3_; clear hb hbox hg; have hcz13_0 : w12.cell? ⟨gb113, 0, none⟩ = some (.slice A0_0 l0_0.length c0_0) := (blk_cell BK113.out 0).trans rfl; have hcz13_1 : w12.cell? ⟨gb113, 1, none⟩ = some (.int .i64 a0_1) := (blk_cell BK113.out 1).trans rfl; have hfz13_0 := blk_frozen BK113.out 0; have hfz13_1 := blk_frozen BK113.out 1))
          repeat (go_quiet (first | ((with_reducible refine gate_dst (N := 1) rfl ?_); (try (refine gate_guard (by rfl) ?_; dsimp only)); refine box_event ?hg (N := 1) ?hd (cs := #[.slice A0_0 l0_0.length c0_0, .int .i64 a0_1]) (t := 99) ?hr ?_; (case hd => rfl); (case hg => rfl); (case hr => first | (go_simp; done) | (go_simp; rfl)); intro gb113 hg w12 hbox hb; have n0_ := Aside0.mk (below_step (by repeat (first | (with_reducible first | exact HB.out | apply below_alloc | apply pw_below_drewN | apply below_drew1) | exact HB.out)) hb); have n1_ := Aside0.mk (hbox); have n2_ := Aside0.mk ((by rw [hg]; exact (below_size (by repeat (first | (with_reducible first | exact HB.out | apply below_alloc | apply pw_below_drewN | apply below_drew1) | exact HB.out))) : w.heap.size ≤ gb113)); have n3_ := Aside0.mk ((by rw [hg]; exact (below_size (by repeat (first | (with_reducible first | exact HB.out | apply below_alloc | apply pw_below_drewN | apply below_drew1) | exact HB.out))) : w.heap.size ≤ gb113)); clear HB; have HB := n0_; have BK113 := n1_; have GW113 := n2_; have GE113 := n3_; clear n0_ n1_ n2_ n3_; clear hb hbox hg; have hcz13_0 : w12.cell? ⟨gb113, 0, none⟩ = some (.slice A0_0 l0_0.length c0_0) := (blk_cell BK113.out 0).trans rfl; have hcz13_1 : w12.cell? ⟨gb113, 1, none⟩ = some (.int .i64 a0_1) := (blk_cell BK113.out 1).trans rfl; have hfz13_0 := blk_frozen BK113.out 0; have hfz13_1 := blk_frozen BK113.out 1)); try go_wp2_with (first | ((with_reducible refine gate_dst (N := 1) rfl ?_); (try (refine gate_guard (by rfl) ?_; dsimp only)); refine box_event ?hg (N := 1) ?hd (cs := #[.slice A0_0 l0_0.length c0_0, .int .i64 a0_1]) (t := 99) ?hr ?_; (case hd => rfl); (case hg => rfl); (case hr => first | (go_simp; done) | (go_simp; rfl)); intro gb113 hg w12 hbox hb; have n0_ := Aside0.mk (below_step (by repeat (first | (with_reducible first | exact HB.out | apply below_alloc | apply pw_below_drewN | apply below_drew1) | exact HB.out)) hb); have n1_ := Aside0.mk (hbox); have n2_ := Aside0.mk ((by rw [hg]; exact (below_size (by repeat (first | (with_reducible first | exact HB.out | apply below_alloc | apply pw_below_drewN | apply below_drew1) | exact HB.out))) : w.heap.size ≤ gb113)); have n3_ := Aside0.mk ((by rw [hg]; exact (below_size (by repeat (first | (with_reducible first | exact HB.out | apply below_alloc | apply pw_below_drewN | apply below_drew1) | exact HB.out))) : w.heap.size ≤ gb113)); clear HB; have HB := n0_; have BK113 := n1_; have GW113 := n2_; have GE113 := n3_; clear n0_ n1_ n2_ n3_; clear hb hbox hg; have hcz13_0 : w12.cell? ⟨gb113, 0, none⟩ = some (.slice A0_0 l0_0.length c0_0) := (blk_cell BK113.out 0).trans rfl; have hcz13_1 : w12.cell? ⟨gb113, 1, none⟩ = some (.int .i64 a0_1) := (blk_cell BK113.out 1).trans rfl; have hfz13_0 := blk_frozen BK113.out 0; have hfz13_1 := blk_frozen BK113.out 1)))
          go_ret
          exact ⟨by first | rfl | (simp [errW_none, errW_some] <;> rfl) | (simp [*, errW_none, errW_some] <;> rfl), by repeat (first | (with_reducible first | exact HB.out | apply below_alloc | apply pw_below_drewN | apply below_drew1 | refine below_set ?_ GE113.out) | exact HB.out)⟩
        · rw [if_neg c11] at H
          have c11b0 : ((wrap64 ((wrap64 (8 * (l0_0.length : Int))) - a0_1)) == 0) = false := beq_eq_false_iff_ne.mpr c11
          have c11b1 : ((wrap64 ((wrap64 (8 * (l0_0.length : Int))) - a0_1)) != 0) = true := bne_iff_ne.mpr c11
          obtain ⟨ji14, hji14⟩ : ∃ j_ : Int, (wrap64 ((l0_0.length : Int) - 1)) = j_ := ⟨_, rfl⟩
          replace H : (if 0 ≤ (ji14) then (if (ji14) < (l0_0.length : Int) then (if 0 ≤ (wrap64 ((wrap64 (8 * (l0_0.length : Int))) - a0_1)) then (some ((Go.bits .and .u8 (rd l0_0 (ji14)) (((shl .u8 1 (wrap64 ((wrap64 (8 * (l0_0.length : Int))) - a0_1))) - 1) % 256)) == 0)) else (none)) else (none)) else (none)) = some r := by first | (rw [hji14] at H; exact H) | (simp only [hji14] at H ⊢; exact H)
          have hji14w : (IntKind.i64.wrap ((l0_0.length : Int) - 1)) = ji14 := (i64_w _).trans hji14
          by_cases c15 : 0 ≤ (ji14)
          · rw [if_pos c15] at H
            have c15b0 : decide (0 ≤ (ji14)) = true := decide_eq_true c15
            clear c15
            by_cases c16 : (ji14) < (l0_0.length : Int)
            · rw [if_pos c16] at H
              have c16b0 : decide ((ji14) < (l0_0.length : Int)) = true := decide_eq_true c16
              clear c16
              obtain ⟨ji17, hji17⟩ : ∃ j_ : Int, (wrap64 ((wrap64 (8 * (l0_0.length : Int))) - a0_1)) = j_ := ⟨_, rfl⟩
              replace H : (if 0 ≤ (ji17) then (some ((Go.bits .and .u8 (rd l0_0 (ji14)) (((shl .u8 1 (ji17)) - 1) % 256)) == 0)) else (none)) = some r := by first | (rw [hji17] at H; exact H) | (simp only [hji17] at H ⊢; exact H)
              (try rw [hji17] at c8b0)
              (try rw [hji17] at c11b0)
              (try rw [hji17] at c11b1)
              have hji17w : (IntKind.i64.wrap ((wrap64 (8 * (l0_0.length : Int))) - a0_1)) = ji17 := (i64_w _).trans hji17
              by_cases c18 : 0 ≤ (ji17)
              · rw [if_pos c18] at H
                have c18b0 := eq_true c18
                have c18b1 : decide (0 ≤ (ji17)) = true := decide_eq_true c18
                clear c18
                obtain ⟨ji19, hji19⟩ : ∃ j_ : Int, (shl .u8 1 (ji17)) = j_ := ⟨_, rfl⟩
                replace H : (some ((Go.bits .and .u8 (rd l0_0 (ji14)) (((ji19) - 1) % 256)) == 0)) = some r := by first | (rw [hji19] at H; exact H) | (simp only [hji19] at H ⊢; exact H)
                have hji19_ : (IntKind.u8.wrap (1 * 2 ^ min (ji17).toNat 8)) = ji19 := hji19
                have hji19z : (ji17) ≤ 8 → (IntKind.u8.wrap (1 * 2 ^ (ji17).toNat)) = ji19 := shl_small hji19
                have hji19u : (IntKind.u8.wrap (2 ^ min (ji17).toNat 8)) = ji19 := by have h_ := hji19_; rw [Int.one_mul] at h_; exact h_
                have hji19v : (ji17) ≤ 8 → (IntKind.u8.wrap (2 ^ (ji17).toNat)) = ji19 := fun hle_ => by have h_ := hji19z hle_; rw [Int.one_mul] at h_; exact h_
                obtain rfl := Option.some.inj H
                go_enter Tryd.func113, Tryd.ntmps113
                go_wp2_with (first | ((with_reducible refine gate_dst (N := 1) rfl ?_); (try (refine gate_guard (by rfl) ?_; dsimp only)); refine box_event ?hg (N := 1) ?hd (cs := #[.slice A0_0 l0_0.length c0_0, .int .i64 a0_1]) (t := 99) ?hr ?_; (case hd => rfl); (case hg => rfl); (case hr => first | (go_simp; done) | (go_simp; rfl)); intro gb113 hg w20 hbox hb; have n0_ := Aside0.mk (below_step (by repeat (first | (with_reducible first | exact HB.out | apply below_alloc | apply pw_below_drewN | apply below_drew1) | exact HB.out)) hb); have n1_ := Aside0.mk (hbox); have n2_ := Aside0.mk ((by rw [hg]; exact (below_size (by repeat (first | (with_reducible first | exact HB.out | apply below_alloc | apply pw_below_drewN | apply below_drew1) | exact HB.out))) : w.heap.size ≤ gb113)); have n3_ := Aside0.mk ((by rw [hg]; exact (below_size (by repeat (first | (with_reducible first | exact HB.out | apply below_alloc | apply pw_below_drewN | apply below_drew1) | exact HB.out))) : w.heap.size ≤ gb113)); clear HB; have HB := n0_; have BK113 := n1_; have GW113 := n2_; have GE113 := n3_; clear n0_ n1_ n2_ n3_; clear hb hbox hg; have hcz21_0 : w20.cell? ⟨gb113, 0, none⟩ = some (.slice A0_0 l0_0.length c0_0) := (blk_cell BK113.out 0).trans rfl; have hcz21_1 : w20.cell? ⟨gb113, 1, none⟩ = some (.int .i64 a0_1) := (blk_cell BK113.out 1).trans rfl; have hfz21_0 := blk_frozen BK113.out 0; have hfz21_1 := blk_frozen BK113.out 1; have p114 : 0 ≤ ((ji14) : Int) := of_decide_eq_true (by first | (with_reducible assumption) | assumption); have q114 : (ji14) < (l0_0.length : Int) := of_decide_eq_true (by first | (with_reducible assumption) | assumption); obtain ⟨ad114, e114, hx114_0⟩ := Kd.at_int HR0_0.out (ji14) p114 q114; cases e114; replace hx114_0 := (HB.out.cell (World.block_lt_of_cell? w _ hx114_0)).trans hx114_0; replace p114 := eq_true p114; replace q114 := eq_true q114))
                repeat (go_quiet (first | ((with_reducible refine gate_dst (N := 1) rfl ?_); (try (refine gate_guard (by rfl) ?_; dsimp only)); refine box_event ?hg (N := 1) ?hd (cs := #[.slice A0_0 l0_0.length c0_0, .int .i64 a0_1]) (t := 99) ?hr ?_; (case hd => rfl); (case hg => rfl); (case hr => first | (go_simp; done) | (go_simp; rfl)); intro gb113 hg w20 hbox hb; have n0_ := Aside0.mk (below_step (by repeat (first | (with_reducible first | exact HB.out | apply below_alloc | apply pw_below_drewN | apply below_drew1) | exact HB.out)) hb); have n1_ := Aside0.mk (hbox); have n2_ := Aside0.mk ((by rw [hg]; exact (below_size (by repeat (first | (with_reducible first | exact HB.out | apply below_alloc | apply pw_below_drewN | apply below_drew1) | exact HB.out))) : w.heap.size ≤ gb113)); have n3_ := Aside0.mk ((by rw [hg]; exact (below_size (by repeat (first | (with_reducible first | exact HB.out | apply below_alloc | apply pw_below_drewN | apply below_drew1) | exact HB.out))) : w.heap.size ≤ gb113)); clear HB; have HB := n0_; have BK113 := n1_; have GW113 := n2_; have GE113 := n3_; clear n0_ n1_ n2_ n3_; clear hb hbox hg; have hcz21_0 : w20.cell? ⟨gb113, 0, none⟩ = some (.slice A0_0 l0_0.length c0_0) := (blk_cell BK113.out 0).trans rfl; have hcz21_1 : w20.cell? ⟨gb113, 1, none⟩ = some (.int .i64 a0_1) := (blk_cell BK113.out 1).trans rfl; have hfz21_0 := blk_frozen BK113.out 0; have hfz21_1 := blk_frozen BK113.out 1; have p114 : 0 ≤ ((ji14) : Int) := of_decide_eq_true (by first | (with_reducible assumption) | assumption); have q114 : (ji14) < (l0_0.length : Int) := of_decide_eq_true (by first | (with_reducible assumption) | assumption); obtain ⟨ad114, e114, hx114_0⟩ := Kd.at_int HR0_0.out (ji14) p114 q114; cases e114; replace hx114_0 := (HB.out.cell (World.block_lt_of_cell? w _ hx114_0)).trans hx114_0; replace p114 := eq_true p114; replace q114 := eq_true q114)); try go_wp2_with (first | ((with_reducible refine gate_dst (N := 1) rfl ?_); (try (refine gate_guard (by rfl) ?_; dsimp only)); refine box_event ?hg (N := 1) ?hd (cs := #[.slice A0_0 l0_0.length c0_0, .int .i64 a0_1]) (t := 99) ?hr ?_; (case hd => rfl); (case hg => rfl); (case hr => first | (go_simp; done) | (go_simp; rfl)); intro gb113 hg w20 hbox hb; have n0_ := Aside0.mk (below_step (by repeat (first | (with_reducible first | exact HB.out | apply below_alloc | apply pw_below_drewN | apply below_drew1) | exact HB.out)) hb); have n1_ := Aside0.mk (hbox); have n2_ := Aside0.mk ((by rw [hg]; exact (below_size (by repeat (first | (with_reducible first | exact HB.out | apply below_alloc | apply pw_below_drewN | apply below_drew1) | exact HB.out))) : w.heap.size ≤ gb113)); have n3_ := Aside0.mk ((by rw [hg]; exact (below_size (by repeat (first | (with_reducible first | exact HB.out | apply below_alloc | apply pw_below_drewN | apply below_drew1) | exact HB.out))) : w.heap.size ≤ gb113)); clear HB; have HB := n0_; have BK113 := n1_; have GW113 := n2_; have GE113 := n3_; clear n0_ n1_ n2_ n3_; clear hb hbox hg; have hcz21_0 : w20.cell? ⟨gb113, 0, none⟩ = some (.slice A0_0 l0_0.length c0_0) := (blk_cell BK113.out 0).trans rfl; have hcz21_1 : w20.cell? ⟨gb113, 1, none⟩ = some (.int .i64 a0_1) := (blk_cell BK113.out 1).trans rfl; have hfz21_0 := blk_frozen BK113.out 0; have hfz21_1 := blk_frozen BK113.out 1; have p114 : 0 ≤ ((ji14) : Int) := of_decide_eq_true (by first | (with_reducible assumption) | assumption); have q114 : (ji14) < (l0_0.length : Int) := of_decide_eq_true (by first | (with_reducible assumption) | assumption); obtain ⟨ad114, e114, hx114_0⟩ := Kd.at_int HR0_0.out (ji14) p114 q114; cases e114; replace hx114_0 := (HB.out.cell (World.block_lt_of_cell? w _ hx114_0)).trans hx114_0; replace p114 := eq_true p114; replace q114 := eq_true q114)))
                go_ret
                exact ⟨by first | rfl | (simp [errW_none, errW_some] <;> rfl) | (simp only [← hji14, ← hji17, ← hji19]; first | rfl | (simp [errW_none, errW_some] <;> rfl)) | (simp [*, errW_none, errW_some] <;> rfl), by repeat (first | (with_reducible first | exact HB.out | apply below_alloc | apply pw_below_drewN | apply below_drew1 | refine below_set ?_ GE113.out) | exact HB.out)⟩
              · rw [if_neg c18] at H
                exact absurd H (by simp)
            · rw [if_neg c16] at H
              exact absurd H (by simp)
          · rw [if_neg c15] at H
            exact absurd H (by simp)

end Go.Proofs.YtbgmnmjokdfmlaaDoor.PA
-- written by wip/gprint.py of this session (it runs the print of the guide's kit over contracts of the session)
namespace Go.Proofs.YtbgmnmjokdfmlaaDoor.PA
open Go.RowKit Go.Proofs.YtbgmnmjokdfmlaaDoorW.PrintWords Go.Proofs.YtbgmnmjokdfmlaaDoorW.PrintLast Go.Proofs.YtbgmnmjokdfmlaaDoorW.PrintMore
attribute [local go_sem] max2_int min2_int max_two min_two max_three min_three max_four min_four   -- for this text's walks alone
set_option linter.unusedVariables false
set_option linter.unusedSimpArgs false

/-! ### bits_class: function 116 -/
mutual
def bits_class.j0 : Nat → Int → Int → Bool → Option (Int)
  | 0, _, _, _ => none
  | k + 1, x0, x3, x7 => if x7 = true then (some (wrap64 ((wrap64 ((wrap64 (x3 - 1)) - 1)) - 1))) else (if x0 ≥ (-2048) then (bits_class.j1 k x0 x3 (decide (x0 < 2048))) else (bits_class.j1 k x0 x3 false))
def bits_class.j1 : Nat → Int → Int → Bool → Option (Int)
  | 0, _, _, _ => none
  | k + 1, x0, x3, x14 => if x14 = true then (some (wrap64 ((wrap64 (x3 - 1)) - 1))) else (if x0 ≥ (-2147483648) then (if x0 < 2147483648 then (some (wrap64 (x3 - 1))) else (some x3)) else (some x3))
end
def bits_class.f (k : Nat) (a0 : Int) : Option (Int) := if a0 = 0 then (some 0) else (if a0 ≥ (-64) then (bits_class.j0 k a0 4 (decide (a0 < 64))) else (bits_class.j0 k a0 4 false))
theorem bits_class.mono_l : ∀ k, (∀ y0 y1 y2, LeO (bits_class.j0 k y0 y1 y2) (bits_class.j0 (k + 1) y0 y1 y2)) ∧ (∀ y0 y1 y2, LeO (bits_class.j1 k y0 y1 y2) (bits_class.j1 (k + 1) y0 y1 y2))
  | 0 => ⟨fun _ _ _ r h => by simp [bits_class.j0] at h, fun _ _ _ r h => by simp [bits_class.j1] at h⟩
  | k + 1 => by
    obtain ⟨ih0, ih1⟩ := bits_class.mono_l k
    refine ⟨?_, ?_⟩
    · intro y0 y1 y2
      unfold bits_class.j0
      repeat' first
      | (with_reducible exact ih0 _ _ _)
      | (with_reducible exact ih1 _ _ _)
      | (with_reducible exact LeO.refl _)
      | (with_reducible exact LeO.none _)
      | (with_reducible refine LeO.ite ?_ ?_)
      | (with_reducible refine LeO.bind ?_ (fun _ => ?_))
      | exact ih0 _ _ _
      | exact ih1 _ _ _
      | exact LeO.none _
      | refine LeO.ite ?_ ?_
      | refine LeO.bind ?_ (fun _ => ?_)
    · intro y0 y1 y2
      unfold bits_class.j1
      repeat' first
      | (with_reducible exact ih0 _ _ _)
      | (with_reducible exact ih1 _ _ _)
      | (with_reducible exact LeO.refl _)
      | (with_reducible exact LeO.none _)
      | (with_reducible refine LeO.ite ?_ ?_)
      | (with_reducible refine LeO.bind ?_ (fun _ => ?_))
      | exact ih0 _ _ _
      | exact ih1 _ _ _
      | exact LeO.none _
      | refine LeO.ite ?_ ?_
      | refine LeO.bind ?_ (fun _ => ?_)
theorem bits_class.mono : ∀ a0 k, LeO (bits_class.f k a0) (bits_class.f (k + 1) a0) := by
  intro a0 k
  obtain ⟨ih0, ih1⟩ := bits_class.mono_l k
  unfold bits_class.f
  repeat' first
      | (with_reducible exact ih0 _ _ _)
      | (with_reducible exact ih1 _ _ _)
      | (with_reducible exact LeO.refl _)
      | (with_reducible exact LeO.none _)
      | (with_reducible refine LeO.ite ?_ ?_)
      | (with_reducible refine LeO.bind ?_ (fun _ => ?_))
      | exact ih0 _ _ _
      | exact ih1 _ _ _
      | exact LeO.none _
      | refine LeO.ite ?_ ?_
      | refine LeO.bind ?_ (fun _ => ?_)
set_option maxHeartbeats 8000000 in
set_option maxRecDepth 100000 in
theorem bits_class.calls (k : Nat) (a0 : Int) (r : Int) (w : World) (h : bits_class.f k a0 = some r) :
    Calls Tryd.prog 116 #[.int .i64 a0] w fun e w' => e = .returned (.int .i64 r) ∧ Drawn0 w w' := by
  have H : (if a0 = 0 then (some 0) else (if a0 ≥ (-64) then (bits_class.j0 k a0 4 (decide (a0 < 64))) else (bits_class.j0 k a0 4 false))) = some r := h
  clear h
  by_cases c2 : a0 = 0
  · rw [if_pos c2] at H
    have c2b0 : (a0 == 0) = true := beq_iff_eq.mpr c2
    have c2b1 : (a0 != 0) = false := bne_eq_false_iff_eq.mpr c2
    clear c2
    obtain rfl := Option.some.inj H
    go_enter Tryd.func116, Tryd.ntmps116
    go_wp2
    go_ret
    exact ⟨by first | rfl | (simp; done) | (simp [*]; done) | (simp; decide +kernel), by repeat (first | exact Drawn0.refl _ | apply Drawn0.step)⟩
  · rw [if_neg c2] at H
    have c2b0 : (a0 == 0) = false := beq_eq_false_iff_ne.mpr c2
    have c2b1 : (a0 != 0) = true := bne_iff_ne.mpr c2
    have HC3 := Aside0.mk H
    clear H
    go_enter Tryd.func116, Tryd.ntmps116
    go_upto_region 3 with (fail)
    go_cut [7] (fun v7 wc => ∃ (kq : Nat) (x7_2 : Bool), v7 = .bool x7_2 ∧ Aside0 (bits_class.j0 kq a0 4 x7_2 = some r) ∧ Aside0 (kq ≤ k) ∧ Drawn0 w wc)
    case first =>
      have H := HC3.out
      clear HC3
      by_cases c4 : a0 ≥ (-64)
      · rw [if_pos c4] at H
        have c4b0 : decide ((-64) ≤ a0) = true := decide_eq_true c4
        clear c4
        (first | rw [c4b0] | (simp only [i64_w, i32_w]; rw [c4b0]) | skip)
        have H' := Aside0.mk H
        clear H
        go_wp2
        go_meet
        case rel => exact ⟨_, (decide (a0 < 64)), (by first | rfl | (simp; done) | (simp [*]; done)), H', ⟨by first | omega | exact Nat.le_refl _⟩, by repeat (first | exact Drawn0.refl _ | apply Drawn0.step)⟩
      · rw [if_neg c4] at H
        have c4b0 : decide ((-64) ≤ a0) = false := decide_eq_false c4
        clear c4
        (first | rw [c4b0] | (simp only [i64_w, i32_w]; rw [c4b0]) | skip)
        have H' := Aside0.mk H
        clear H
        go_wp2
        go_meet
        case rel => exact ⟨_, (false), (by first | rfl | (simp; done) | (simp [*]; done)), H', ⟨by first | omega | exact Nat.le_refl _⟩, by repeat (first | exact Drawn0.refl _ | apply Drawn0.step)⟩
    case rest =>
      clear HC3
      try clear c1
      try clear c2
      try clear c2b0
      try clear c2b1
      try clear p2
      try clear c4
      try clear c4b0
      obtain ⟨kq, x7_2, rfl, HA, HJ2, ⟨mc2, rfl⟩⟩ := hcut
      cases kq with
      | zero => exact absurd HA.out (by simp [bits_class.j0])
      | succ kj2 =>
        have H := HA.out
        clear HA
        simp only [bits_class.j0] at H
        by_cases c5 : x7_2 = true
        · subst c5
          have H1 : (some (wrap64 ((wrap64 ((wrap64 (4 - 1)) - 1)) - 1))) = some r := by rw [if_pos rfl] at H; exact H
          clear H
          have H := H1
          clear H1
          obtain rfl := Option.some.inj H
          go_wp2
          go_ret
          exact ⟨by first | rfl | (simp; done) | (simp [*]; done) | (simp; decide +kernel), by repeat (first | exact Drawn0.refl _ | apply Drawn0.step)⟩
        · replace c5 := Bool.eq_false_iff.mpr c5
          subst c5
          have H1 : (if a0 ≥ (-2048) then (bits_class.j1 kj2 a0 4 (decide (a0 < 2048))) else (bits_class.j1 kj2 a0 4 false)) = some r := by rw [if_neg (show ¬ (false = true) by decide)] at H; exact H
          clear H
          have H := H1
          clear H1
          have HC6 := Aside0.mk H
          clear H
          go_upto_region 4 with (fail)
          go_cut [14] (fun v14 wc => ∃ (kq : Nat) (x14_5 : Bool), v14 = .bool x14_5 ∧ Aside0 (bits_class.j1 kq a0 4 x14_5 = some r) ∧ Aside0 (kq ≤ kj2) ∧ Drawn0 w wc)
          case first =>
            have H := HC6.out
            clear HC6
            by_cases c7 : a0 ≥ (-2048)
            · rw [if_pos c7] at H
              have c7b0 : decide ((-2048) ≤ a0) = true := decide_eq_true c7
              clear c7
              (first | rw [c7b0] | (simp only [i64_w, i32_w]; rw [c7b0]) | skip)
              have H' := Aside0.mk H
              clear H
              go_wp2
              go_meet
              case rel => exact ⟨_, (decide (a0 < 2048)), (by first | rfl | (simp; done) | (simp [*]; done)), H', ⟨by have := HJ2.out; first | omega | exact Nat.le_refl _⟩, by repeat (first | exact Drawn0.refl _ | apply Drawn0.step)⟩
            · rw [if_neg c7] at H
              have c7b0 : decide ((-2048) ≤ a0) = false := decide_eq_false c7
              clear c7
              (first | rw [c7b0] | (simp only [i64_w, i32_w]; rw [c7b0]) | skip)
              have H' := Aside0.mk H
              clear H
              go_wp2
              go_meet
              case rel => exact ⟨_, (false), (by first | rfl | (simp; done) | (simp [*]; done)), H', ⟨by have := HJ2.out; first | omega | exact Nat.le_refl _⟩, by repeat (first | exact Drawn0.refl _ | apply Drawn0.step)⟩
          case rest =>
            clear HC6
            try clear c1
            try clear c2
            try clear c2b0
            try clear c2b1
            try clear p2
            try clear c4
            try clear c4b0
            try clear c5
            try clear p6
            try clear c7
            try clear c7b0
            try clear p2
            obtain ⟨kq, x14_5, rfl, HA, HJ5, ⟨mc5, rfl⟩⟩ := hcut
            cases kq with
            | zero => exact absurd HA.out (by simp [bits_class.j1])
            | succ kj5 =>
              have H := HA.out
              clear HA
              simp only [bits_class.j1] at H
              by_cases c8 : x14_5 = true
              · subst c8
                have H1 : (some (wrap64 ((wrap64 (4 - 1)) - 1))) = some r := by rw [if_pos rfl] at H; exact H
                clear H
                have H := H1
                clear H1
                obtain rfl := Option.some.inj H
                go_wp2
                go_ret
                exact ⟨by first | rfl | (simp; done) | (simp [*]; done) | (simp; decide +kernel), by repeat (first | exact Drawn0.refl _ | apply Drawn0.step)⟩
              · replace c8 := Bool.eq_false_iff.mpr c8
                subst c8
                have H1 : (if a0 ≥ (-2147483648) then (if a0 < 2147483648 then (some (wrap64 (4 - 1))) else (some 4)) else (some 4)) = some r := by rw [if_neg (show ¬ (false = true) by decide)] at H; exact H
                clear H
                have H := H1
                clear H1
                by_cases c9 : a0 ≥ (-2147483648)
                · rw [if_pos c9] at H
                  have c9b0 : decide ((-2147483648) ≤ a0) = true := decide_eq_true c9
                  clear c9
                  by_cases c10 : a0 < 2147483648
                  · rw [if_pos c10] at H
                    have c10b0 : decide (a0 < 2147483648) = true := decide_eq_true c10
                    clear c10
                    obtain rfl := Option.some.inj H
                    go_wp2
                    go_ret
                    exact ⟨by first | rfl | (simp; done) | (simp [*]; done) | (simp; decide +kernel), by repeat (first | exact Drawn0.refl _ | apply Drawn0.step)⟩
                  · rw [if_neg c10] at H
                    have c10b0 : decide (a0 < 2147483648) = false := decide_eq_false c10
                    clear c10
                    obtain rfl := Option.some.inj H
                    go_wp2
                    go_ret
                    exact ⟨by first | rfl | (simp; done) | (simp [*]; done) | (simp; decide +kernel), by repeat (first | exact Drawn0.refl _ | apply Drawn0.step)⟩
                · rw [if_neg c9] at H
                  have c9b0 : decide ((-2147483648) ≤ a0) = false := decide_eq_false c9
                  clear c9
                  obtain rfl := Option.some.inj H
                  go_wp2
                  go_ret
                  exact ⟨by first | rfl | (simp; done) | (simp [*]; done) | (simp; decide +kernel), by repeat (first | exact Drawn0.refl _ | apply Drawn0.step)⟩

end Go.Proofs.YtbgmnmjokdfmlaaDoor.PA
-- written by wip/gprint.py of this session (it runs the print of the guide's kit over contracts of the session)
namespace Go.Proofs.YtbgmnmjokdfmlaaDoor.PA
open Go.RowKit Go.Proofs.YtbgmnmjokdfmlaaDoorW.PrintWords Go.Proofs.YtbgmnmjokdfmlaaDoorW.PrintLast Go.Proofs.YtbgmnmjokdfmlaaDoorW.PrintMore
attribute [local go_sem] max2_int min2_int max_two min_two max_three min_three max_four min_four   -- for this text's walks alone
set_option linter.unusedVariables false
set_option linter.unusedSimpArgs false

/-! ### bits_width: function 117 -/
def bits_width.f (a0 : Int) : Option (Int) := if a0 = 1 then (some 7) else (if a0 = 2 then (some 12) else (if a0 = 3 then (some 32) else (if a0 = 4 then (some 64) else (some 0))))
set_option maxHeartbeats 8000000 in
set_option maxRecDepth 100000 in
theorem bits_width.calls (a0 : Int) (r : Int) (w : World) (h : bits_width.f a0 = some r) :
    Calls Tryd.prog 117 #[.int .i64 a0] w fun e w' => e = .returned (.int .i64 r) ∧ Drawn0 w w' := by
  have H : (if a0 = 1 then (some 7) else (if a0 = 2 then (some 12) else (if a0 = 3 then (some 32) else (if a0 = 4 then (some 64) else (some 0))))) = some r := h
  clear h
  by_cases c2 : a0 = 1
  · rw [if_pos c2] at H
    have c2b0 : (a0 == 1) = true := beq_iff_eq.mpr c2
    have c2b1 : (a0 != 1) = false := bne_eq_false_iff_eq.mpr c2
    clear c2
    obtain rfl := Option.some.inj H
    go_enter Tryd.func117, Tryd.ntmps117
    go_wp2
    go_ret
    exact ⟨by first | rfl | (simp; done) | (simp [*]; done) | (simp; decide +kernel), by repeat (first | exact Drawn0.refl _ | apply Drawn0.step)⟩
  · rw [if_neg c2] at H
    have c2b0 : (a0 == 1) = false := beq_eq_false_iff_ne.mpr c2
    have c2b1 : (a0 != 1) = true := bne_iff_ne.mpr c2
    by_cases c3 : a0 = 2
    · rw [if_pos c3] at H
      have c3b0 : (a0 == 2) = true := beq_iff_eq.mpr c3
      have c3b1 : (a0 != 2) = false := bne_eq_false_iff_eq.mpr c3
      clear c3
      obtain rfl := Option.some.inj H
      go_enter Tryd.func117, Tryd.ntmps117
      go_wp2
      go_ret
      exact ⟨by first | rfl | (simp; done) | (simp [*]; done) | (simp; decide +kernel), by repeat (first | exact Drawn0.refl _ | apply Drawn0.step)⟩
    · rw [if_neg c3] at H
      have c3b0 : (a0 == 2) = false := beq_eq_false_iff_ne.mpr c3
      have c3b1 : (a0 != 2) = true := bne_iff_ne.mpr c3
      by_cases c4 : a0 = 3
      · rw [if_pos c4] at H
        have c4b0 : (a0 == 3) = true := beq_iff_eq.mpr c4
        have c4b1 : (a0 != 3) = false := bne_eq_false_iff_eq.mpr c4
        clear c4
        obtain rfl := Option.some.inj H
        go_enter Tryd.func117, Tryd.ntmps117
        go_wp2
        go_ret
        exact ⟨by first | rfl | (simp; done) | (simp [*]; done) | (simp; decide +kernel), by repeat (first | exact Drawn0.refl _ | apply Drawn0.step)⟩
      · rw [if_neg c4] at H
        have c4b0 : (a0 == 3) = false := beq_eq_false_iff_ne.mpr c4
        have c4b1 : (a0 != 3) = true := bne_iff_ne.mpr c4
        by_cases c5 : a0 = 4
        · rw [if_pos c5] at H
          have c5b0 : (a0 == 4) = true := beq_iff_eq.mpr c5
          have c5b1 : (a0 != 4) = false := bne_eq_false_iff_eq.mpr c5
          clear c5
          obtain rfl := Option.some.inj H
          go_enter Tryd.func117, Tryd.ntmps117
          go_wp2
          go_ret
          exact ⟨by first | rfl | (simp; done) | (simp [*]; done) | (simp; decide +kernel), by repeat (first | exact Drawn0.refl _ | apply Drawn0.step)⟩
        · rw [if_neg c5] at H
          have c5b0 : (a0 == 4) = false := beq_eq_false_iff_ne.mpr c5
          have c5b1 : (a0 != 4) = true := bne_iff_ne.mpr c5
          obtain rfl := Option.some.inj H
          go_enter Tryd.func117, Tryd.ntmps117
          go_wp2
          go_ret
          exact ⟨by first | rfl | (simp; done) | (simp [*]; done) | (simp; decide +kernel), by repeat (first | exact Drawn0.refl _ | apply Drawn0.step)⟩

end Go.Proofs.YtbgmnmjokdfmlaaDoor.PA
namespace Go.Proofs.YtbgmnmjokdfmlaaDoor.PA
open Go.RowKit Go.Proofs.YtbgmnmjokdfmlaaDoor.G Go.Proofs.YtbgmnmjokdfmlaaDoorW.PrintWords Go.Proofs.YtbgmnmjokdfmlaaDoorW.PrintLast Go.Proofs.YtbgmnmjokdfmlaaDoorW.PrintMore
set_option linter.unusedVariables false
set_option linter.unusedSimpArgs false

def bits_Put.f (l : List Int) (a0 a1 a2 : Int) : Option (List Int × Int × Int) :=
  if l.length ≤ 900000000 then (bits_Can.f l a0).bind fun b => if b = true then (if a2 < 0 then some ([], 0, 1) else if 64 < a2 then some ([], 0, 1) else (bits_add.f l a0 a1 a2).bind fun r => some (r.1, r.2, 0)) else some ([], 0, 1)
  else none

set_option maxHeartbeats 2000000 in
set_option maxRecDepth 100000 in
theorem bits_Put.calls (A0_0 : Option Addr) (c0_0 : Nat) (l0_0 : List Int) (a0_1 : Int) (a1 : Int) (a2 : Int) (r1 : List Int) (r2 : Int) (r3 : Int) (w : World) (hr0_0 : Kd.C (Kd.int .u8) w A0_0 l0_0.length l0_0) (hc0_0 : l0_0.length ≤ c0_0) (h : bits_Put.f l0_0 a0_1 a1 a2 = some (r1, r2, r3)) :
    Calls Tryd.prog 93 #[.agg #[.slice A0_0 l0_0.length c0_0, .int .i64 a0_1], .int .u64 a1, .int .i64 a2] w fun e w' => ∃ v0_ : Value, e = .returned (.tuple #[.agg #[v0_, .int .i64 r2], .int .i64 r3]) ∧ Kd.R (Kd.int .u8) 5 w' w.heap.size (fun _ => True) v0_ r1 ∧ Below w.heap.size w w' := by
  have hu24 := Tryd.underlying99
  unfold bits_Put.f at h
  split at h
  case isFalse => cases h
  case isTrue hlen =>
  obtain ⟨b, hcan, h⟩ := Option.bind_eq_some_iff.mp h
  have HR := Aside0.mk hr0_0
  have HC := Aside0.mk hc0_0
  have HL := Aside0.mk hlen
  have H := Aside0.mk h
  clear hr0_0 hc0_0 hlen h
  go_enter Tryd.func93, Tryd.ntmps93
  go_wp2_with (fail)
  refine (bits_Can.calls A0_0 c0_0 l0_0 a0_1 b _ ?c1 HC.out hcan).mono ?_
  case c1 => exact Kd.C_alloc (Kd.C_alloc HR.out _) _
  rintro e w1 ⟨rfl, hb⟩
  have BK0 := Aside0.mk (blk_below (g := w.heap.size) (o := .cells #[.slice A0_0 l0_0.length c0_0, .int .i64 a0_1] 99 (0, 0)) (blk_alloc (blk_new w _) _) hb)
  have BK1 := Aside0.mk (blk_below (g := w.heap.size + 1) (o := .cells #[.slice none 0 0, .int .i64 0] 99 (0, 0)) (by have := blk_new (w.alloc (.cells #[.slice A0_0 l0_0.length c0_0, .int .i64 a0_1] 99 (0, 0))) (.cells #[.slice none 0 0, .int .i64 0] 99 (0, 0)); rw [show (w.alloc (.cells #[.slice A0_0 l0_0.length c0_0, .int .i64 a0_1] 99 (0, 0))).heap.size = w.heap.size + 1 by simp] at this; exact this) hb)
  have HB := Aside0.mk (below_step (below_alloc (below_alloc (Below.refl w.heap.size w) _) _) hb)
  clear hb hcan
  have hz0 : w1.cell? ⟨w.heap.size, 0, none⟩ = some (.slice A0_0 l0_0.length c0_0) := blk_cell BK0.out 0
  have hz1 : w1.cell? ⟨w.heap.size, 1, none⟩ = some (.int .i64 a0_1) := blk_cell BK0.out 1
  have hy0 : w1.cell? ⟨w.heap.size + 1, 0, none⟩ = some (.slice none 0 0) := blk_cell BK1.out 0
  have hy1 : w1.cell? ⟨w.heap.size + 1, 1, none⟩ = some (.int .i64 0) := blk_cell BK1.out 1
  have hf0 := blk_frozen BK1.out 0
  have hf1 := blk_frozen BK1.out 1
  by_cases hbad : b = false ∨ a2 < 0 ∨ 64 < a2
  · have hr : r1 = [] ∧ r2 = 0 ∧ r3 = 1 := by
      have h_ := H.out
      split at h_
      case isFalse => simp only [Option.some.injEq, Prod.mk.injEq] at h_; obtain ⟨rfl, rfl, rfl⟩ := h_; exact ⟨rfl, rfl, rfl⟩
      case isTrue hb1 =>
        split at h_
        case isTrue => simp only [Option.some.injEq, Prod.mk.injEq] at h_; obtain ⟨rfl, rfl, rfl⟩ := h_; exact ⟨rfl, rfl, rfl⟩
        case isFalse h1 =>
          split at h_
          case isTrue => simp only [Option.some.injEq, Prod.mk.injEq] at h_; obtain ⟨rfl, rfl, rfl⟩ := h_; exact ⟨rfl, rfl, rfl⟩
          case isFalse h2 => rcases hbad with h3 | h3 | h3 <;> simp_all
    obtain ⟨rfl, rfl, rfl⟩ := hr
    clear H
    have key : ∀ (d1 d2 : Bool), decide (a2 < 0) = d1 → decide (64 < a2) = d2 → (b = false ∨ d1 = true ∨ d2 = true) → True := fun _ _ _ _ _ => trivial
    rcases Bool.eq_false_or_eq_true b with rfl | rfl
    · by_cases h1 : a2 < 0
      · have hd1 : decide (a2 < 0) = true := decide_eq_true h1
        clear hbad h1 key
        go_wp2_with (fail)
        refine bodyPost_ret (results_ct rfl _ _ (w.heap.size + 1) 99 #[.slice none 0 0, .int .i64 0] (0, 0) _ rfl (by (with_reducible repeat (first | refine blk_drewN ?_ _ | refine blk_drew ?_ | refine blk_alloc ?_ _)); refine blk_put (cs := #[.slice none 0 0, .int .i64 0]) ?_ 1 _ rfl; refine blk_put (cs := #[.slice none 0 0, .int .i64 0]) ?_ 0 _ rfl; exact BK1.out) Tryd.underlying99 rfl (by kernel_rfl)) rfl ?_
        exact ⟨_, rfl, Kd.R_nil _ _ _ _ _, (HB.out.setCell (p := ⟨w.heap.size + 1, 0, none⟩) (by simp) _).setCell (p := ⟨w.heap.size + 1, 1, none⟩) (by simp) _⟩
      · have hd1 : decide (a2 < 0) = false := decide_eq_false h1
        have hd2 : decide (64 < a2) = true := decide_eq_true (by rcases hbad with h | h | h; cases h; exact absurd h h1; exact h)
        clear hbad h1 key
        go_wp2_with (fail)
        refine bodyPost_ret (results_ct rfl _ _ (w.heap.size + 1) 99 #[.slice none 0 0, .int .i64 0] (0, 0) _ rfl (by (with_reducible repeat (first | refine blk_drewN ?_ _ | refine blk_drew ?_ | refine blk_alloc ?_ _)); refine blk_put (cs := #[.slice none 0 0, .int .i64 0]) ?_ 1 _ rfl; refine blk_put (cs := #[.slice none 0 0, .int .i64 0]) ?_ 0 _ rfl; exact BK1.out) Tryd.underlying99 rfl (by kernel_rfl)) rfl ?_
        exact ⟨_, rfl, Kd.R_nil _ _ _ _ _, (HB.out.setCell (p := ⟨w.heap.size + 1, 0, none⟩) (by simp) _).setCell (p := ⟨w.heap.size + 1, 1, none⟩) (by simp) _⟩
    · clear hbad key
      go_wp2_with (fail)
      refine bodyPost_ret (results_ct rfl _ _ (w.heap.size + 1) 99 #[.slice none 0 0, .int .i64 0] (0, 0) _ rfl (by (with_reducible repeat (first | refine blk_drewN ?_ _ | refine blk_drew ?_ | refine blk_alloc ?_ _)); refine blk_put (cs := #[.slice none 0 0, .int .i64 0]) ?_ 1 _ rfl; refine blk_put (cs := #[.slice none 0 0, .int .i64 0]) ?_ 0 _ rfl; exact BK1.out) Tryd.underlying99 rfl (by kernel_rfl)) rfl ?_
      exact ⟨_, rfl, Kd.R_nil _ _ _ _ _, (HB.out.setCell (p := ⟨w.heap.size + 1, 0, none⟩) (by simp) _).setCell (p := ⟨w.heap.size + 1, 1, none⟩) (by simp) _⟩
  · obtain ⟨rfl, h1, h2⟩ : b = true ∧ ¬ a2 < 0 ∧ ¬ 64 < a2 := by
      refine ⟨?_, fun h => hbad (.inr (.inl h)), fun h => hbad (.inr (.inr h))⟩
      cases b <;> simp_all
    have h_ := H.out
    rw [if_pos rfl, if_neg h1, if_neg h2] at h_
    obtain ⟨⟨q1, q2⟩, hadd, h_⟩ := Option.bind_eq_some_iff.mp h_
    simp only [Option.some.injEq, Prod.mk.injEq] at h_
    obtain ⟨rfl, rfl, rfl⟩ := h_
    have hd1 : decide (a2 < 0) = false := decide_eq_false h1
    have hd2 : decide (64 < a2) = false := decide_eq_false h2
    have HADD := Aside0.mk hadd
    clear hbad h1 h2 H hadd h_ h
    go_upto_region 3 with (fail)
    go_cut [8] (fun v8 wc => ∃ (gy : Nat) (v : Value), v8 = .pointer (some ⟨gy, 0, none⟩) ∧ Aside0 (wc.heap[gy]? = some (.cells #[v, .int .i64 a0_1] 99 (0, 0))) ∧ Aside0 (Kd.R (Kd.int .u8) 5 wc w.heap.size (fun _ => True) v l0_0) ∧ Aside0 (wc.heap[w.heap.size + 1]? = some (.cells #[.slice none 0 0, .int .i64 0] 99 (0, 0))) ∧ Aside0 (Below w.heap.size w wc) ∧ Aside0 (w.heap.size + 1 < gy))
    case first =>
      have hs0 := blk_lt BK0.out
      have hs1 := blk_lt BK1.out
      have HCL : Aside0 (bytes_Clone.f l0_0 = some l0_0) := ⟨by unfold bytes_Clone.f G.bytes_Clone.f; rw [if_pos (by have := HL.out; omega)]⟩
      go_region_with (first
        | (go_at_call 114; (with_reducible refine (bytes_Clone.calls A0_0 c0_0 l0_0 l0_0 w1.drew ?c1 HC.out HCL.out).mono ?_); (case c1 => exact Kd.C_drew (Kd.C_below HR.out HB.out)); rintro e w2 ⟨v, rfl, ho, hb⟩; have hz1 : w2.cell? ⟨w.heap.size, 1, none⟩ = some (.int .i64 a0_1) := blk_cell (blk_below (blk_drew BK0.out) hb) 1; have HO := Aside0.mk (Kd.R_lower ho (below_size (below_drew1 HB.out))); have HB2 := Aside0.mk (below_step (below_drew1 HB.out) hb); have BK2 := Aside0.mk (blk_below (blk_drew BK1.out) hb); have hs3 := Nat.lt_of_lt_of_le hs0 hb.size; have hs4 := Nat.lt_of_lt_of_le hs1 hb.size; have hs5 : w.heap.size < w2.heap.size := hs3; obtain ⟨A2, c2, e2⟩ := Kd.R_slice HO.out; subst e2; clear ho hb)
        | (go_at_call 114; (with_reducible refine (bytes_Clone.calls A0_0 c0_0 l0_0 l0_0 (w1.alloc (.cells #[.slice none 0 0, .int .i64 0] 99)).drew ?c1 HC.out HCL.out).mono ?_); (case c1 => exact Kd.C_drew (Kd.C_alloc (Kd.C_below HR.out HB.out) _)); rintro e w2 ⟨v, rfl, ho, hb⟩; have hz1 : w2.cell? ⟨w.heap.size, 1, none⟩ = some (.int .i64 a0_1) := blk_cell (blk_below (blk_drew (blk_alloc BK0.out _)) hb) 1; have HO := Aside0.mk (Kd.R_lower ho (below_size (below_drew1 (below_alloc HB.out _)))); have HB2 := Aside0.mk (below_step (below_drew1 (below_alloc HB.out _)) hb); have BK2 := Aside0.mk (blk_below (blk_drew (blk_alloc BK1.out _)) hb); have BKY := Aside0.mk (blk_below (blk_drew (blk_new w1 (.cells #[.slice none 0 0, .int .i64 0] 99))) hb); have hy2 : w2.cell? ⟨w1.heap.size, 0, none⟩ = some (.slice none 0 0) := blk_cell BKY.out 0; have hy3 : w2.cell? ⟨w1.heap.size, 1, none⟩ = some (.int .i64 0) := blk_cell BKY.out 1; have hy4 : w2.frozen? ⟨w1.heap.size, 0, none⟩ = false := blk_frozen BKY.out 0; have hy5 : w2.frozen? ⟨w1.heap.size, 1, none⟩ = false := blk_frozen BKY.out 1; obtain ⟨A2, c2, e2⟩ := Kd.R_slice HO.out; subst e2; clear ho hb))
      all_goals
        go_wp2_with fail
        go_meet
        case rel => first
          | exact ⟨w2.heap.size, .slice A2 l0_0.length c2, rfl, ⟨blk_new w2 _⟩, ⟨Kd.R_alloc HO.out _⟩, ⟨blk_alloc BK2.out _⟩, ⟨below_alloc HB2.out _⟩, ⟨hs4⟩⟩
          | exact ⟨w1.heap.size, .slice A2 l0_0.length c2, rfl, ⟨blk_put (cs := #[.slice A2 l0_0.length c2, .int .i64 0]) (blk_put (cs := #[.slice none 0 0, .int .i64 0]) BKY.out 0 _ rfl) 1 _ rfl⟩, ⟨Kd.R_mono (Kd.R_far (p := ⟨w1.heap.size, 1, none⟩) (Kd.R_far (p := ⟨w1.heap.size, 0, none⟩) (Kd.R_types HO.out BKY.out (by decide)) (fun _ hk => hk.2) _) (fun _ hk => hk.2) _) (fun _ _ => trivial)⟩, ⟨blk_far (p := ⟨w1.heap.size, 1, none⟩) (blk_far (p := ⟨w1.heap.size, 0, none⟩) BK2.out (Nat.ne_of_lt hs1) _) (Nat.ne_of_lt hs1) _⟩, ⟨(HB2.out.setCell (p := ⟨w1.heap.size, 0, none⟩) (below_size HB.out) _).setCell (p := ⟨w1.heap.size, 1, none⟩) (below_size HB.out) _⟩, ⟨hs1⟩⟩
    case rest =>
      clear BK0 BK1 hz0 hz1 hy0 hy1 hf0 hf1 HB
      obtain ⟨gy, v, rfl, BKY, HO, BK1, HB, HGY⟩ := hcut
      go_wp2_with (fail)
      refine (bits_add.calls w.heap.size gy w v l0_0 a0_1 a1 a2 q1 q2 wc HO.out BKY.out (by have := HGY.out; omega) HB.out HADD.out).mono ?_
      rintro e w3 ⟨v3, rfl, hg3, ho3, hb3, hk3⟩
      have BKY3 := Aside0.mk hg3
      have HO3 := Aside0.mk ho3
      have HB3 := Aside0.mk hb3
      have BK3 := Aside0.mk (hk3 _ _ _ (Nat.ne_of_lt HGY.out) (by decide) BK1.out)
      clear hg3 ho3 hb3 hk3 BKY HO HB BK1
      have hne := Nat.ne_of_lt HGY.out
      have hne' := Ne.symm hne
      obtain ⟨A3, c3, e3⟩ := Kd.R_slice HO3.out
      subst e3
      have hz0 : w3.cell? ⟨gy, 0, none⟩ = some (.slice A3 q1.length c3) := blk_cell BKY3.out 0
      have hz1 : w3.cell? ⟨gy, 1, none⟩ = some (.int .i64 q2) := blk_cell BKY3.out 1
      have hy0 : w3.cell? ⟨w.heap.size + 1, 0, none⟩ = some (.slice none 0 0) := blk_cell BK3.out 0
      have hy1 : w3.cell? ⟨w.heap.size + 1, 1, none⟩ = some (.int .i64 0) := blk_cell BK3.out 1
      have hf0 := blk_frozen BK3.out 0
      have hf1 := blk_frozen BK3.out 1
      go_wp2_with (fail)
      refine bodyPost_ret (results_ct rfl _ _ (w.heap.size + 1) 99 #[.slice A3 q1.length c3, .int .i64 q2] (0, 0) _ rfl (by (with_reducible repeat (first | refine blk_drewN ?_ _ | refine blk_drew ?_ | refine blk_alloc ?_ _)); refine blk_put (cs := #[.slice A3 q1.length c3, .int .i64 0]) ?_ 1 _ rfl; refine blk_put (cs := #[.slice none 0 0, .int .i64 0]) ?_ 0 _ rfl; exact BK3.out) Tryd.underlying99 rfl (by kernel_rfl)) rfl ?_
      exact ⟨_, rfl, Kd.R_mono (Kd.R_far (p := ⟨w.heap.size + 1, 1, none⟩) (Kd.R_far (p := ⟨w.heap.size + 1, 0, none⟩) (Kd.R_types HO3.out BK3.out (by decide)) (fun _ hk => hk.2) _) (fun _ hk => hk.2) _) (fun _ _ => trivial), (HB3.out.setCell (p := ⟨w.heap.size + 1, 0, none⟩) (by simp) _).setCell (p := ⟨w.heap.size + 1, 1, none⟩) (by simp) _⟩
end Go.Proofs.YtbgmnmjokdfmlaaDoor.PA
namespace Go.Proofs.YtbgmnmjokdfmlaaDoor.PA
open Go.RowKit Go.Proofs.YtbgmnmjokdfmlaaDoor.G Go.Proofs.YtbgmnmjokdfmlaaDoorW.PrintWords Go.Proofs.YtbgmnmjokdfmlaaDoorW.PrintLast Go.Proofs.YtbgmnmjokdfmlaaDoorW.PrintMore
set_option linter.unusedVariables false
set_option linter.unusedSimpArgs false

theorem Drawn0.mk' (w : World) (n : Nat) : Drawn0 w (w.drewN n) := ⟨n, rfl⟩
def classN (n : Int) : Int := if n = 0 then 0 else if -64 ≤ n ∧ n < 64 then 1 else if -2048 ≤ n ∧ n < 2048 then 2 else if -2147483648 ≤ n ∧ n < 2147483648 then 3 else 4
def widthN (k : Int) : Int := if k = 1 then 7 else if k = 2 then 12 else if k = 3 then 32 else if k = 4 then 64 else 0
theorem classN_range (n : Int) : 0 ≤ classN n ∧ classN n ≤ 4 := by
  unfold classN
  repeat' split
  all_goals omega
theorem class_eq (n : Int) : bits_class.f 8 n = some (classN n) := by
  have e1 : wrap64 1 = 1 := by decide +kernel
  have e2 : wrap64 2 = 2 := by decide +kernel
  have e3 : wrap64 3 = 3 := by decide +kernel
  unfold bits_class.f classN
  by_cases a1 : n = 0 <;> by_cases a2 : -64 ≤ n <;> by_cases a3 : n < 64 <;> by_cases a4 : -2048 ≤ n <;> by_cases a5 : n < 2048 <;> by_cases a6 : -2147483648 ≤ n <;> by_cases a7 : n < 2147483648
  all_goals first
    | (exfalso; omega)
    | simp [bits_class.j0, bits_class.j1, e1, e2, e3, a1, a2, a3, a4, a5, a6, a7]
theorem width_eq (k : Int) : bits_width.f k = some (widthN k) := by
  unfold bits_width.f widthN
  repeat' split
  all_goals first | rfl | omega
def bits_PutInt.f (l : List Int) (a0 a1 : Int) : Option (List Int × Int × Int) :=
  if l.length ≤ 900000000 then (bits_Can.f l a0).bind fun b => if b = true then
    (bits_add.f l a0 (IntKind.u64.wrap (shl .u64 1 (classN a1) - 1)) (classN a1)).bind fun r =>
      (if classN a1 < 4 then bits_add.f r.1 r.2 0 1 else some r).bind fun s =>
        (bits_add.f s.1 s.2 (IntKind.u64.wrap a1) (widthN (classN a1))).bind fun t => some (t.1, t.2, 0)
    else some ([], 0, 1)
  else none

set_option maxHeartbeats 2000000 in
set_option maxRecDepth 100000 in
theorem bits_PutInt.calls (A0_0 : Option Addr) (c0_0 : Nat) (l0_0 : List Int) (a0_1 : Int) (a1 : Int) (r1 : List Int) (r2 : Int) (r3 : Int) (w : World) (hr0_0 : Kd.C (Kd.int .u8) w A0_0 l0_0.length l0_0) (hc0_0 : l0_0.length ≤ c0_0) (h : bits_PutInt.f l0_0 a0_1 a1 = some (r1, r2, r3)) :
    Calls Tryd.prog 94 #[.agg #[.slice A0_0 l0_0.length c0_0, .int .i64 a0_1], .int .i64 a1] w fun e w' => ∃ v0_ : Value, e = .returned (.tuple #[.agg #[v0_, .int .i64 r2], .int .i64 r3]) ∧ Kd.R (Kd.int .u8) 5 w' w.heap.size (fun _ => True) v0_ r1 ∧ Below w.heap.size w w' := by
  have hu24 := Tryd.underlying99
  unfold bits_PutInt.f at h
  split at h
  case isFalse => cases h
  case isTrue hlen =>
  obtain ⟨b, hcan, h⟩ := Option.bind_eq_some_iff.mp h
  have HR := Aside0.mk hr0_0
  have HC := Aside0.mk hc0_0
  have HL := Aside0.mk hlen
  have H := Aside0.mk h
  clear hr0_0 hc0_0 hlen h
  go_enter Tryd.func94, Tryd.ntmps94
  go_wp2_with (fail)
  refine (bits_Can.calls A0_0 c0_0 l0_0 a0_1 b _ ?c1 HC.out hcan).mono ?_
  case c1 => exact Kd.C_alloc (Kd.C_alloc HR.out _) _
  rintro e w1 ⟨rfl, hb⟩
  have BK0 := Aside0.mk (blk_below (g := w.heap.size) (o := .cells #[.slice A0_0 l0_0.length c0_0, .int .i64 a0_1] 99 (0, 0)) (blk_alloc (blk_new w _) _) hb)
  have BK1 := Aside0.mk (blk_below (g := w.heap.size + 1) (o := .cells #[.slice none 0 0, .int .i64 0] 99 (0, 0)) (by have := blk_new (w.alloc (.cells #[.slice A0_0 l0_0.length c0_0, .int .i64 a0_1] 99 (0, 0))) (.cells #[.slice none 0 0, .int .i64 0] 99 (0, 0)); rw [show (w.alloc (.cells #[.slice A0_0 l0_0.length c0_0, .int .i64 a0_1] 99 (0, 0))).heap.size = w.heap.size + 1 by simp] at this; exact this) hb)
  have HB := Aside0.mk (below_step (below_alloc (below_alloc (Below.refl w.heap.size w) _) _) hb)
  clear hb hcan
  have hz0 : w1.cell? ⟨w.heap.size, 0, none⟩ = some (.slice A0_0 l0_0.length c0_0) := blk_cell BK0.out 0
  have hz1 : w1.cell? ⟨w.heap.size, 1, none⟩ = some (.int .i64 a0_1) := blk_cell BK0.out 1
  have hy0 : w1.cell? ⟨w.heap.size + 1, 0, none⟩ = some (.slice none 0 0) := blk_cell BK1.out 0
  have hy1 : w1.cell? ⟨w.heap.size + 1, 1, none⟩ = some (.int .i64 0) := blk_cell BK1.out 1
  have hf0 := blk_frozen BK1.out 0
  have hf1 := blk_frozen BK1.out 1
  rcases Bool.eq_false_or_eq_true b with rfl | rfl
  case inr =>
    have hr : r1 = [] ∧ r2 = 0 ∧ r3 = 1 := by
      have h_ := H.out
      rw [if_neg (by decide)] at h_
      simp only [Option.some.injEq, Prod.mk.injEq] at h_; obtain ⟨rfl, rfl, rfl⟩ := h_; exact ⟨rfl, rfl, rfl⟩
    obtain ⟨rfl, rfl, rfl⟩ := hr
    clear H
    go_wp2_with (fail)
    refine bodyPost_ret (results_ct rfl _ _ (w.heap.size + 1) 99 #[.slice none 0 0, .int .i64 0] (0, 0) _ rfl (by (with_reducible repeat (first | refine blk_drewN ?_ _ | refine blk_drew ?_ | refine blk_alloc ?_ _)); refine blk_put (cs := #[.slice none 0 0, .int .i64 0]) ?_ 1 _ rfl; refine blk_put (cs := #[.slice none 0 0, .int .i64 0]) ?_ 0 _ rfl; exact BK1.out) Tryd.underlying99 rfl (by kernel_rfl)) rfl ?_
    exact ⟨_, rfl, Kd.R_nil _ _ _ _ _, (HB.out.setCell (p := ⟨w.heap.size + 1, 0, none⟩) (by simp) _).setCell (p := ⟨w.heap.size + 1, 1, none⟩) (by simp) _⟩
  case inl =>
    have h0_ := H.out
    rw [if_pos rfl] at h0_
    obtain ⟨⟨s1, s2⟩, hadd1, h1_⟩ := Option.bind_eq_some_iff.mp h0_
    obtain ⟨⟨s3, s4⟩, hadd2, h2_⟩ := Option.bind_eq_some_iff.mp h1_
    obtain ⟨⟨q1, q2⟩, hadd3, h3_⟩ := Option.bind_eq_some_iff.mp h2_
    simp only [Option.some.injEq, Prod.mk.injEq] at h3_
    obtain ⟨rfl, rfl, rfl⟩ := h3_
    have HADD1 := Aside0.mk hadd1
    have HADD2 := Aside0.mk hadd2
    have HADD3 := Aside0.mk hadd3
    clear H hadd1 hadd2 hadd3 h0_ h1_ h2_ h
    go_upto_region 3 with (fail)
    go_cut [6] (fun v6 wc => ∃ (gy : Nat) (v : Value), v6 = .pointer (some ⟨gy, 0, none⟩) ∧ Aside0 (wc.heap[gy]? = some (.cells #[v, .int .i64 a0_1] 99 (0, 0))) ∧ Aside0 (Kd.R (Kd.int .u8) 5 wc w.heap.size (fun _ => True) v l0_0) ∧ Aside0 (wc.heap[w.heap.size + 1]? = some (.cells #[.slice none 0 0, .int .i64 0] 99 (0, 0))) ∧ Aside0 (Below w.heap.size w wc) ∧ Aside0 (w.heap.size + 1 < gy))
    case first =>
      have hs0 := blk_lt BK0.out
      have hs1 := blk_lt BK1.out
      have HCL : Aside0 (bytes_Clone.f l0_0 = some l0_0) := ⟨by unfold bytes_Clone.f G.bytes_Clone.f; rw [if_pos (by have := HL.out; omega)]⟩
      go_region_with (first
        | (go_at_call 114; (with_reducible refine (bytes_Clone.calls A0_0 c0_0 l0_0 l0_0 w1.drew ?c1 HC.out HCL.out).mono ?_); (case c1 => exact Kd.C_drew (Kd.C_below HR.out HB.out)); rintro e w2 ⟨v, rfl, ho, hb⟩; have hz1 : w2.cell? ⟨w.heap.size, 1, none⟩ = some (.int .i64 a0_1) := blk_cell (blk_below (blk_drew BK0.out) hb) 1; have HO := Aside0.mk (Kd.R_lower ho (below_size (below_drew1 HB.out))); have HB2 := Aside0.mk (below_step (below_drew1 HB.out) hb); have BK2 := Aside0.mk (blk_below (blk_drew BK1.out) hb); have hs3 := Nat.lt_of_lt_of_le hs0 hb.size; have hs4 := Nat.lt_of_lt_of_le hs1 hb.size; have hs5 : w.heap.size < w2.heap.size := hs3; obtain ⟨A2, c2, e2⟩ := Kd.R_slice HO.out; subst e2; clear ho hb)
        | (go_at_call 114; (with_reducible refine (bytes_Clone.calls A0_0 c0_0 l0_0 l0_0 (w1.alloc (.cells #[.slice none 0 0, .int .i64 0] 99)).drew ?c1 HC.out HCL.out).mono ?_); (case c1 => exact Kd.C_drew (Kd.C_alloc (Kd.C_below HR.out HB.out) _)); rintro e w2 ⟨v, rfl, ho, hb⟩; have hz1 : w2.cell? ⟨w.heap.size, 1, none⟩ = some (.int .i64 a0_1) := blk_cell (blk_below (blk_drew (blk_alloc BK0.out _)) hb) 1; have HO := Aside0.mk (Kd.R_lower ho (below_size (below_drew1 (below_alloc HB.out _)))); have HB2 := Aside0.mk (below_step (below_drew1 (below_alloc HB.out _)) hb); have BK2 := Aside0.mk (blk_below (blk_drew (blk_alloc BK1.out _)) hb); have BKY := Aside0.mk (blk_below (blk_drew (blk_new w1 (.cells #[.slice none 0 0, .int .i64 0] 99))) hb); have hy2 : w2.cell? ⟨w1.heap.size, 0, none⟩ = some (.slice none 0 0) := blk_cell BKY.out 0; have hy3 : w2.cell? ⟨w1.heap.size, 1, none⟩ = some (.int .i64 0) := blk_cell BKY.out 1; have hy4 : w2.frozen? ⟨w1.heap.size, 0, none⟩ = false := blk_frozen BKY.out 0; have hy5 : w2.frozen? ⟨w1.heap.size, 1, none⟩ = false := blk_frozen BKY.out 1; obtain ⟨A2, c2, e2⟩ := Kd.R_slice HO.out; subst e2; clear ho hb))
      all_goals
        go_wp2_with fail
        go_meet
        case rel => first
          | exact ⟨w2.heap.size, .slice A2 l0_0.length c2, rfl, ⟨blk_new w2 _⟩, ⟨Kd.R_alloc HO.out _⟩, ⟨blk_alloc BK2.out _⟩, ⟨below_alloc HB2.out _⟩, ⟨hs4⟩⟩
          | exact ⟨w1.heap.size, .slice A2 l0_0.length c2, rfl, ⟨blk_put (cs := #[.slice A2 l0_0.length c2, .int .i64 0]) (blk_put (cs := #[.slice none 0 0, .int .i64 0]) BKY.out 0 _ rfl) 1 _ rfl⟩, ⟨Kd.R_mono (Kd.R_far (p := ⟨w1.heap.size, 1, none⟩) (Kd.R_far (p := ⟨w1.heap.size, 0, none⟩) (Kd.R_types HO.out BKY.out (by decide)) (fun _ hk => hk.2) _) (fun _ hk => hk.2) _) (fun _ _ => trivial)⟩, ⟨blk_far (p := ⟨w1.heap.size, 1, none⟩) (blk_far (p := ⟨w1.heap.size, 0, none⟩) BK2.out (Nat.ne_of_lt hs1) _) (Nat.ne_of_lt hs1) _⟩, ⟨(HB2.out.setCell (p := ⟨w1.heap.size, 0, none⟩) (below_size HB.out) _).setCell (p := ⟨w1.heap.size, 1, none⟩) (below_size HB.out) _⟩, ⟨hs1⟩⟩
    case rest =>
      clear BK0 BK1 hz0 hz1 hy0 hy1 hf0 hf1 HB
      obtain ⟨gy, v, rfl, BKY, HO, BK1, HB, HGY⟩ := hcut
      have hsz1 := blk_lt BK1.out
      go_wp2_with (fail)
      refine (bits_class.calls 8 a1 _ _ (class_eq a1)).mono ?_
      rintro e w3 ⟨rfl, ⟨n3, rfl⟩⟩
      have HCL := Aside0.mk (classN_range a1)
      have HA1 := HADD1
      generalize classN a1 = k at HCL HADD1 HADD2 HADD3 HA1
      have hk0 := eq_true HCL.out.1
      obtain ⟨S2, hS2⟩ : ∃ S, shl .u64 1 k = S := ⟨_, rfl⟩
      have hS2u : IntKind.u64.wrap (2 ^ min k.toNat 64) = S2 := by have h_ : IntKind.u64.wrap (1 * 2 ^ min k.toNat 64) = S2 := hS2; rw [Int.one_mul] at h_; exact h_
      have hS2v : k ≤ 64 → IntKind.u64.wrap (2 ^ k.toNat) = S2 := fun hle_ => by have h_ := shl_small (k := .u64) hS2 hle_; rw [Int.one_mul] at h_; exact h_
      replace HADD1 : Aside0 (bits_add.f l0_0 a0_1 (IntKind.u64.wrap (S2 - 1)) k = some (s1, s2)) := ⟨by rw [← hS2]; exact HADD1.out⟩
      clear HA1 hS2
      go_wp2_with (fail)
      refine (bits_add.calls w.heap.size gy w _ l0_0 a0_1 (IntKind.u64.wrap (S2 - 1)) k s1 s2 _ (Kd.R_drewN HO.out n3) (blk_drewN BKY.out n3) (by have := HGY.out; omega) (pw_below_drewN HB.out n3) HADD1.out).mono ?_
      rintro e w4 ⟨v4, rfl, hg3, ho3, hb3, hk3⟩
      have BKY4 := Aside0.mk hg3
      have HO4 := Aside0.mk ho3
      have HB4 := Aside0.mk hb3
      have BK4 := Aside0.mk (hk3 _ _ _ (Nat.ne_of_lt HGY.out) (by decide) (blk_drewN BK1.out n3))
      clear hg3 ho3 hb3 hk3
      clear BKY HO HB BK1 HADD1
      by_cases hk4 : k < 4
      · have hd4 : decide (k < 4) = true := decide_eq_true hk4
        replace HADD2 : Aside0 (bits_add.f s1 s2 0 1 = some (s3, s4)) := ⟨by have h_ := HADD2.out; rw [if_pos hk4] at h_; exact h_⟩
        clear hk4
        go_wp2_with (fail)
        refine (bits_add.calls w.heap.size gy w _ s1 s2 0 1 s3 s4 _ HO4.out BKY4.out (by have := HGY.out; omega) HB4.out HADD2.out).mono ?_
        rintro e w5 ⟨v5, rfl, hg3, ho3, hb3, hk3⟩
        have BKY5 := Aside0.mk hg3
        have HO5 := Aside0.mk ho3
        have HB5 := Aside0.mk hb3
        have BK5 := Aside0.mk (hk3 _ _ _ (Nat.ne_of_lt HGY.out) (by decide) BK4.out)
        clear hg3 ho3 hb3 hk3
        go_wp2_with (fail)
        refine (bits_width.calls k _ _ (width_eq k)).mono ?_
        rintro e wq ⟨rfl, ⟨nq, rfl⟩⟩
        go_wp2_with (fail)
        refine (bits_add.calls w.heap.size gy w _ s3 s4 (IntKind.u64.wrap a1) (widthN k) q1 q2 _ (Kd.R_drewN HO5.out _) (blk_drewN BKY5.out _) (by have := HGY.out; omega) (pw_below_drewN HB5.out _) HADD3.out).mono ?_
        rintro e w9 ⟨v9, rfl, hg3, ho3, hb3, hk3⟩
        have BKY9 := Aside0.mk hg3
        have HO9 := Aside0.mk ho3
        have HB9 := Aside0.mk hb3
        have BK9 := Aside0.mk (hk3 _ _ _ (Nat.ne_of_lt HGY.out) (by decide) (blk_drewN BK5.out _))
        clear hg3 ho3 hb3 hk3
        have hne := Nat.ne_of_lt HGY.out
        have hne' := Ne.symm hne
        obtain ⟨A3, c3, e3⟩ := Kd.R_slice HO9.out
        subst e3
        have hz0 : w9.cell? ⟨gy, 0, none⟩ = some (.slice A3 q1.length c3) := blk_cell BKY9.out 0
        have hz1 : w9.cell? ⟨gy, 1, none⟩ = some (.int .i64 q2) := blk_cell BKY9.out 1
        have hy0 : w9.cell? ⟨w.heap.size + 1, 0, none⟩ = some (.slice none 0 0) := blk_cell BK9.out 0
        have hy1 : w9.cell? ⟨w.heap.size + 1, 1, none⟩ = some (.int .i64 0) := blk_cell BK9.out 1
        have hf0 := blk_frozen BK9.out 0
        have hf1 := blk_frozen BK9.out 1
        go_wp2_with (fail)
        refine bodyPost_ret (results_ct rfl _ _ (w.heap.size + 1) 99 #[.slice A3 q1.length c3, .int .i64 q2] (0, 0) _ rfl (by (with_reducible repeat (first | refine blk_drewN ?_ _ | refine blk_drew ?_ | refine blk_alloc ?_ _)); refine blk_put (cs := #[.slice A3 q1.length c3, .int .i64 0]) ?_ 1 _ rfl; refine blk_put (cs := #[.slice none 0 0, .int .i64 0]) ?_ 0 _ rfl; exact BK9.out) Tryd.underlying99 rfl (by kernel_rfl)) rfl ?_
        exact ⟨_, rfl, Kd.R_mono (Kd.R_far (p := ⟨w.heap.size + 1, 1, none⟩) (Kd.R_far (p := ⟨w.heap.size + 1, 0, none⟩) (Kd.R_types HO9.out BK9.out (by decide)) (fun _ hk => hk.2) _) (fun _ hk => hk.2) _) (fun _ _ => trivial), (HB9.out.setCell (p := ⟨w.heap.size + 1, 0, none⟩) (by simp) _).setCell (p := ⟨w.heap.size + 1, 1, none⟩) (by simp) _⟩

      · have hd4 : decide (k < 4) = false := decide_eq_false hk4
        have he : s1 = s3 ∧ s2 = s4 := by have h_ := HADD2.out; rw [if_neg hk4] at h_; simpa using h_
        obtain ⟨rfl, rfl⟩ := he
        clear hk4 HADD2
        go_wp2_with (fail)
        refine (bits_width.calls k _ _ (width_eq k)).mono ?_
        rintro e wq ⟨rfl, ⟨nq, rfl⟩⟩
        go_wp2_with (fail)
        refine (bits_add.calls w.heap.size gy w _ s1 s2 (IntKind.u64.wrap a1) (widthN k) q1 q2 _ (Kd.R_drewN HO4.out _) (blk_drewN BKY4.out _) (by have := HGY.out; omega) (pw_below_drewN HB4.out _) HADD3.out).mono ?_
        rintro e w9 ⟨v9, rfl, hg3, ho3, hb3, hk3⟩
        have BKY9 := Aside0.mk hg3
        have HO9 := Aside0.mk ho3
        have HB9 := Aside0.mk hb3
        have BK9 := Aside0.mk (hk3 _ _ _ (Nat.ne_of_lt HGY.out) (by decide) (blk_drewN BK4.out _))
        clear hg3 ho3 hb3 hk3
        have hne := Nat.ne_of_lt HGY.out
        have hne' := Ne.symm hne
        obtain ⟨A3, c3, e3⟩ := Kd.R_slice HO9.out
        subst e3
        have hz0 : w9.cell? ⟨gy, 0, none⟩ = some (.slice A3 q1.length c3) := blk_cell BKY9.out 0
        have hz1 : w9.cell? ⟨gy, 1, none⟩ = some (.int .i64 q2) := blk_cell BKY9.out 1
        have hy0 : w9.cell? ⟨w.heap.size + 1, 0, none⟩ = some (.slice none 0 0) := blk_cell BK9.out 0
        have hy1 : w9.cell? ⟨w.heap.size + 1, 1, none⟩ = some (.int .i64 0) := blk_cell BK9.out 1
        have hf0 := blk_frozen BK9.out 0
        have hf1 := blk_frozen BK9.out 1
        go_wp2_with (fail)
        refine bodyPost_ret (results_ct rfl _ _ (w.heap.size + 1) 99 #[.slice A3 q1.length c3, .int .i64 q2] (0, 0) _ rfl (by (with_reducible repeat (first | refine blk_drewN ?_ _ | refine blk_drew ?_ | refine blk_alloc ?_ _)); refine blk_put (cs := #[.slice A3 q1.length c3, .int .i64 0]) ?_ 1 _ rfl; refine blk_put (cs := #[.slice none 0 0, .int .i64 0]) ?_ 0 _ rfl; exact BK9.out) Tryd.underlying99 rfl (by kernel_rfl)) rfl ?_
        exact ⟨_, rfl, Kd.R_mono (Kd.R_far (p := ⟨w.heap.size + 1, 1, none⟩) (Kd.R_far (p := ⟨w.heap.size + 1, 0, none⟩) (Kd.R_types HO9.out BK9.out (by decide)) (fun _ hk => hk.2) _) (fun _ hk => hk.2) _) (fun _ _ => trivial), (HB9.out.setCell (p := ⟨w.heap.size + 1, 0, none⟩) (by simp) _).setCell (p := ⟨w.heap.size + 1, 1, none⟩) (by simp) _⟩

end Go.Proofs.YtbgmnmjokdfmlaaDoor.PA
-- written by wip/gprint.py of this session (it runs the print of the guide's kit over contracts of the session)
namespace Go.Proofs.YtbgmnmjokdfmlaaDoor.PA
open Go.RowKit Go.Proofs.YtbgmnmjokdfmlaaDoorW.PrintWords Go.Proofs.YtbgmnmjokdfmlaaDoorW.PrintLast Go.Proofs.YtbgmnmjokdfmlaaDoorW.PrintMore
attribute [local go_sem] max2_int min2_int max_two min_two max_three min_three max_four min_four   -- for this text's walks alone
set_option linter.unusedVariables false
set_option linter.unusedSimpArgs false

/-! ### bits_Take: function 111 -/
mutual
def bits_Take.j0 : Nat → Int → Int → Bool → List Int → Int → Option (Int × Int)
  | 0, _, _, _, _, _ => none
  | k + 1, x1, x2, x11, x134000, x134001 => if x11 = true then (some (0, 1)) else (if (wrap64 (x134001 - x1)) < x2 then (some (0, 3)) else (bits_Take.l0 k x1 x2 0 x134000 x134001))
def bits_Take.l0 : Nat → Int → Int → Int → List Int → Int → Option (Int × Int)
  | 0, _, _, _, _, _ => none
  | k + 1, x1, x2, x8, x134000, x134001 => if x2 > 0 then (if 0 ≤ (mn (wrap64 (8 - (Int.tmod x1 8))) x2) then (if 0 ≤ (wrap64 (Int.tdiv x1 8)) then (if (wrap64 (Int.tdiv x1 8)) < (x134000.length : Int) then (if 0 ≤ (wrap64 ((wrap64 (8 - (Int.tmod x1 8))) - (mn (wrap64 (8 - (Int.tmod x1 8))) x2))) then (bits_Take.l0 k (wrap64 (x1 + (mn (wrap64 (8 - (Int.tmod x1 8))) x2))) (wrap64 (x2 - (mn (wrap64 (8 - (Int.tmod x1 8))) x2))) (Go.bits .or .u64 (shl .u64 x8 (mn (wrap64 (8 - (Int.tmod x1 8))) x2)) (IntKind.u64.wrap (Go.bits .and .u8 (shr .u8 (rd x134000 (wrap64 (Int.tdiv x1 8))) (wrap64 ((wrap64 (8 - (Int.tmod x1 8))) - (mn (wrap64 (8 - (Int.tmod x1 8))) x2)))) (((shl .u8 1 (mn (wrap64 (8 - (Int.tmod x1 8))) x2)) - 1) % 256)))) x134000 x134001) else (none)) else (none)) else (none)) else (none)) else (some (x8, 0))
end
def bits_Take.f (k : Nat) (l0_0 : List Int) (a0_1 : Int) (a1 : Int) (a2 : Int) : Option (Int × Int) := (bits_Can.f l0_0 a0_1).bind fun t134 => (if t134 = true then (if a2 < 0 then (bits_Take.j0 k a1 a2 true l0_0 a0_1) else (if a2 > 64 then (bits_Take.j0 k a1 a2 true l0_0 a0_1) else (if a1 < 0 then (bits_Take.j0 k a1 a2 true l0_0 a0_1) else (bits_Take.j0 k a1 a2 (decide (a1 > a0_1)) l0_0 a0_1)))) else (bits_Take.j0 k a1 a2 true l0_0 a0_1))
theorem bits_Take.mono_l : ∀ k, (∀ y0 y1 y2 y3 y4, LeO (bits_Take.j0 k y0 y1 y2 y3 y4) (bits_Take.j0 (k + 1) y0 y1 y2 y3 y4)) ∧ (∀ y0 y1 y2 y3 y4, LeO (bits_Take.l0 k y0 y1 y2 y3 y4) (bits_Take.l0 (k + 1) y0 y1 y2 y3 y4))
  | 0 => ⟨fun _ _ _ _ _ r h => by simp [bits_Take.j0] at h, fun _ _ _ _ _ r h => by simp [bits_Take.l0] at h⟩
  | k + 1 => by
    obtain ⟨ih0, ih1⟩ := bits_Take.mono_l k
    refine ⟨?_, ?_⟩
    · intro y0 y1 y2 y3 y4
      unfold bits_Take.j0
      repeat' first
      | (with_reducible exact ih0 _ _ _ _ _)
      | (with_reducible exact ih1 _ _ _ _ _)
      | (with_reducible exact LeO.refl _)
      | (with_reducible exact LeO.none _)
      | (with_reducible refine LeO.ite ?_ ?_)
      | (with_reducible refine LeO.bind ?_ (fun _ => ?_))
      | exact ih0 _ _ _ _ _
      | exact ih1 _ _ _ _ _
      | exact LeO.none _
      | refine LeO.ite ?_ ?_
      | refine LeO.bind ?_ (fun _ => ?_)
    · intro y0 y1 y2 y3 y4
      unfold bits_Take.l0
      repeat' first
      | (with_reducible exact ih0 _ _ _ _ _)
      | (with_reducible exact ih1 _ _ _ _ _)
      | (with_reducible exact LeO.refl _)
      | (with_reducible exact LeO.none _)
      | (with_reducible refine LeO.ite ?_ ?_)
      | (with_reducible refine LeO.bind ?_ (fun _ => ?_))
      | exact ih0 _ _ _ _ _
      | exact ih1 _ _ _ _ _
      | exact LeO.none _
      | refine LeO.ite ?_ ?_
      | refine LeO.bind ?_ (fun _ => ?_)
theorem bits_Take.mono : ∀ a0 a1 a2 a3 k, LeO (bits_Take.f k a0 a1 a2 a3) (bits_Take.f (k + 1) a0 a1 a2 a3) := by
  intro a0 a1 a2 a3 k
  obtain ⟨ih0, ih1⟩ := bits_Take.mono_l k
  unfold bits_Take.f
  repeat' first
      | (with_reducible exact ih0 _ _ _ _ _)
      | (with_reducible exact ih1 _ _ _ _ _)
      | (with_reducible exact LeO.refl _)
      | (with_reducible exact LeO.none _)
      | (with_reducible refine LeO.ite ?_ ?_)
      | (with_reducible refine LeO.bind ?_ (fun _ => ?_))
      | exact ih0 _ _ _ _ _
      | exact ih1 _ _ _ _ _
      | exact LeO.none _
      | refine LeO.ite ?_ ?_
      | refine LeO.bind ?_ (fun _ => ?_)
set_option maxHeartbeats 8000000 in
set_option maxRecDepth 100000 in
theorem bits_Take.calls (k : Nat) (A0_0 : Option Addr) (c0_0 : Nat) (l0_0 : List Int) (a0_1 : Int) (a1 : Int) (a2 : Int) (r1 : Int) (r2 : Int) (w : World) (hr0_0 : Kd.C (Kd.int .u8) w A0_0 l0_0.length l0_0) (hc0_0 : l0_0.length ≤ c0_0) (h : bits_Take.f k l0_0 a0_1 a1 a2 = some (r1, r2)) :
    Calls Tryd.prog 111 #[.agg #[.slice A0_0 l0_0.length c0_0, .int .i64 a0_1], .int .i64 a1, .int .i64 a2] w fun e w' => e = .returned (.tuple #[.int .u64 r1, .int .i64 r2]) ∧ Below w.heap.size w w' := by
  have hu99 := Tryd.underlying99
  have HR0_0 := Aside0.mk hr0_0
  have HC0_0 := Aside0.mk hc0_0
  clear hr0_0 hc0_0
  have HB := Aside0.mk (Below.refl w.heap.size w)
  have H : ((bits_Can.f l0_0 a0_1).bind fun t134 => (if t134 = true then (if a2 < 0 then (bits_Take.j0 k a1 a2 true l0_0 a0_1) else (if a2 > 64 then (bits_Take.j0 k a1 a2 true l0_0 a0_1) else (if a1 < 0 then (bits_Take.j0 k a1 a2 true l0_0 a0_1) else (bits_Take.j0 k a1 a2 (decide (a1 > a0_1)) l0_0 a0_1)))) else (bits_Take.j0 k a1 a2 true l0_0 a0_1))) = some (r1, r2) := h
  clear h
  have HC4 := Aside0.mk H
  clear H
  go_enter Tryd.func111, Tryd.ntmps111
  go_upto_region 1 with (first | ((with_reducible refine gate_dst (N := 3) rfl ?_); refine box_event ?hg (N := 3) ?hd (cs := #[.slice A0_0 l0_0.length c0_0, .int .i64 a0_1]) (t := 99) ?hr ?_; (case hd => rfl); (case hg => rfl); (case hr => first | (go_simp; done) | (go_simp; rfl)); intro gb133 hg w5 hbox hb; have n0_ := Aside0.mk (below_step (by repeat (first | (with_reducible first | exact HB.out | apply below_alloc | apply pw_below_drewN | apply below_drew1) | exact HB.out)) hb); have n1_ := Aside0.mk (hbox); have n2_ := Aside0.mk ((by rw [hg]; exact (below_size (by repeat (first | (with_reducible first | exact HB.out | apply below_alloc | apply pw_below_drewN | apply below_drew1) | exact HB.out))) : w.heap.size ≤ gb133)); have n3_ := Aside0.mk ((by rw [hg]; exact (below_size (by repeat (first | (with_reducible first | exact HB.out | apply below_alloc | apply pw_below_drewN | apply below_drew1) | exact HB.out))) : w.heap.size ≤ gb133)); clear HB; have HB := n0_; have BK133 := n1_; have GW133 := n2_; have GE133 := n3_; clear n0_ n1_ n2_ n3_; clear hb hbox hg))
  repeat (go_quiet (first | ((with_reducible refine gate_dst (N := 3) rfl ?_); refine box_event ?hg (N := 3) ?hd (cs := #[.slice A0_0 l0_0.length c0_0, .int .i64 a0_1]) (t := 99) ?hr ?_; (case hd => rfl); (case hg => rfl); (case hr => first | (go_simp; done) | (go_simp; rfl)); intro gb133 hg w5 hbox hb; have n0_ := Aside0.mk (below_step (by repeat (first | (with_reducible first | exact HB.out | apply below_alloc | apply pw_below_drewN | apply below_drew1) | exact HB.out)) hb); have n1_ := Aside0.mk (hbox); have n2_ := Aside0.mk ((by rw [hg]; exact (below_size (by repeat (first | (with_reducible first | exact HB.out | apply below_alloc | apply pw_below_drewN | apply below_drew1) | exact HB.out))) : w.heap.size ≤ gb133)); have n3_ := Aside0.mk ((by rw [hg]; exact (below_size (by repeat (first | (with_reducible first | exact HB.out | apply below_alloc | apply pw_below_drewN | apply below_drew1) | exact HB.out))) : w.heap.size ≤ gb133)); clear HB; have HB := n0_; have BK133 := n1_; have GW133 := n2_; have GE133 := n3_; clear n0_ n1_ n2_ n3_; clear hb hbox hg)); go_upto_region 1 with (first | ((with_reducible refine gate_dst (N := 3) rfl ?_); refine box_event ?hg (N := 3) ?hd (cs := #[.slice A0_0 l0_0.length c0_0, .int .i64 a0_1]) (t := 99) ?hr ?_; (case hd => rfl); (case hg => rfl); (case hr => first | (go_simp; done) | (go_simp; rfl)); intro gb133 hg w5 hbox hb; have n0_ := Aside0.mk (below_step (by repeat (first | (with_reducible first | exact HB.out | apply below_alloc | apply pw_below_drewN | apply below_drew1) | exact HB.out)) hb); have n1_ := Aside0.mk (hbox); have n2_ := Aside0.mk ((by rw [hg]; exact (below_size (by repeat (first | (with_reducible first | exact HB.out | apply below_alloc | apply pw_below_drewN | apply below_drew1) | exact HB.out))) : w.heap.size ≤ gb133)); have n3_ := Aside0.mk ((by rw [hg]; exact (below_size (by repeat (first | (with_reducible first | exact HB.out | apply below_alloc | apply pw_below_drewN | apply below_drew1) | exact HB.out))) : w.heap.size ≤ gb133)); clear HB; have HB := n0_; have BK133 := n1_; have GW133 := n2_; have GE133 := n3_; clear n0_ n1_ n2_ n3_; clear hb hbox hg)))
  (try simp only [Act.put, List.setIfInBounds_toArray, List.set_cons_zero, List.set_cons_succ])
  go_cut [11] (fun v11 wc => ∃ (kq : Nat) (x11_3 : Bool), v11 = .bool x11_3 ∧ Aside0 (bits_Take.j0 kq a1 a2 x11_3 l0_0 a0_1 = some (r1, r2)) ∧ Aside0 (kq ≤ k) ∧ Aside0 (wc.heap[gb133]? = some (.cells #[(.slice A0_0 l0_0.length c0_0), .int .i64 a0_1] 99 (0, 0))) ∧ Aside0 (Below w.heap.size w wc))
  case first =>
    have H := HC4.out
    clear HC4
    replace H := Option.bind_eq_some_iff.mp H
    obtain ⟨t134, A60, H⟩ := H
    replace H : (if t134 = true then (if a2 < 0 then (bits_Take.j0 k a1 a2 true l0_0 a0_1) else (if a2 > 64 then (bits_Take.j0 k a1 a2 true l0_0 a0_1) else (if a1 < 0 then (bits_Take.j0 k a1 a2 true l0_0 a0_1) else (bits_Take.j0 k a1 a2 (decide (a1 > a0_1)) l0_0 a0_1)))) else (bits_Take.j0 k a1 a2 true l0_0 a0_1)) = some (r1, r2) := H
    have A6 := Aside0.mk A60
    clear A60
    by_cases c7 : t134 = true
    · subst c7
      have H1 : (if a2 < 0 then (bits_Take.j0 k a1 a2 true l0_0 a0_1) else (if a2 > 64 then (bits_Take.j0 k a1 a2 true l0_0 a0_1) else (if a1 < 0 then (bits_Take.j0 k a1 a2 true l0_0 a0_1) else (bits_Take.j0 k a1 a2 (decide (a1 > a0_1)) l0_0 a0_1)))) = some (r1, r2) := by rw [if_pos rfl] at H; exact H
      clear H
      have H := H1
      clear H1
      by_cases c8 : a2 < 0
      · rw [if_pos c8] at H
        have c8b0 : decide (a2 < 0) = true := decide_eq_true c8
        clear c8
        (first | rw [c8b0] | (simp only [i64_w, i32_w]; rw [c8b0]) | skip)
        have H' := Aside0.mk H
        clear H
        have hcz9_0 : w5.cell? ⟨gb133, 0, none⟩ = some (.slice A0_0 l0_0.length c0_0) := (blk_cell BK133.out 0).trans rfl
        have hcz9_1 : w5.cell? ⟨gb133, 1, none⟩ = some (.int .i64 a0_1) := (blk_cell BK133.out 1).trans rfl
        have hfz9_0 := blk_frozen BK133.out 0
        have hfz9_1 := blk_frozen BK133.out 1
        go_wp2_with (first | (go_at_call 113; (with_reducible refine (bits_Can.calls _ _ l0_0 a0_1 true _ ?side1 ?side2 A6.out).mono ?_); (case side1 => repeat (first | exact (Kd.C_below HR0_0.out HB.out) | (with_reducible refine Kd.C_alloc ?_ _) | (with_reducible refine Kd.C_drewN ?_ _) | (with_reducible refine Kd.C_drew ?_))); (case side2 => exact HC0_0.out); rintro e w10 ⟨rfl, hb⟩; have n0_ := Aside0.mk (blk_below (g := gb133) (o := .cells #[.slice A0_0 l0_0.length c0_0, .int .i64 a0_1] 99 (0, 0)) (by (with_reducible repeat (first | refine blk_drewN ?_ _ | refine blk_drew ?_ | refine blk_alloc ?_ _)); exact BK133.out) hb); have n1_ := Aside0.mk (below_step (by repeat (first | (with_reducible first | exact HB.out | apply below_alloc | apply pw_below_drewN | apply below_drew1 | refine below_set ?_ GE133.out) | exact HB.out)) hb); clear BK133; clear HB; have BK133 := n0_; have HB := n1_; clear n0_ n1_; (try clear hb); (try clear hb2); (try clear hk); (try clear hi)))
        repeat (go_quiet (first | (go_at_call 113; (with_reducible refine (bits_Can.calls _ _ l0_0 a0_1 true _ ?side1 ?side2 A6.out).mono ?_); (case side1 => repeat (first | exact (Kd.C_below HR0_0.out HB.out) | (with_reducible refine Kd.C_alloc ?_ _) | (with_reducible refine Kd.C_drewN ?_ _) | (with_reducible refine Kd.C_drew ?_))); (case side2 => exact HC0_0.out); rintro e w10 ⟨rfl, hb⟩; have n0_ := Aside0.mk (blk_below (g := gb133) (o := .cells #[.slice A0_0 l0_0.length c0_0, .int .i64 a0_1] 99 (0, 0)) (by (with_reducible repeat (first | refine blk_drewN ?_ _ | refine blk_drew ?_ | refine blk_alloc ?_ _)); exact BK133.out) hb); have n1_ := Aside0.mk (below_step (by repeat (first | (with_reducible first | exact HB.out | apply below_alloc | apply pw_below_drewN | apply below_drew1 | refine below_set ?_ GE133.out) | exact HB.out)) hb); clear BK133; clear HB; have BK133 := n0_; have HB := n1_; clear n0_ n1_; (try clear hb); (try clear hb2); (try clear hk); (try clear hi))); try go_wp2_with (first | (go_at_call 113; (with_reducible refine (bits_Can.calls _ _ l0_0 a0_1 true _ ?side1 ?side2 A6.out).mono ?_); (case side1 => repeat (first | exact (Kd.C_below HR0_0.out HB.out) | (with_reducible refine Kd.C_alloc ?_ _) | (with_reducible refine Kd.C_drewN ?_ _) | (with_reducible refine Kd.C_drew ?_))); (case side2 => exact HC0_0.out); rintro e w10 ⟨rfl, hb⟩; have n0_ := Aside0.mk (blk_below (g := gb133) (o := .cells #[.slice A0_0 l0_0.length c0_0, .int .i64 a0_1] 99 (0, 0)) (by (with_reducible repeat (first | refine blk_drewN ?_ _ | refine blk_drew ?_ | refine blk_alloc ?_ _)); exact BK133.out) hb); have n1_ := Aside0.mk (below_step (by repeat (first | (with_reducible first | exact HB.out | apply below_alloc | apply pw_below_drewN | apply below_drew1 | refine below_set ?_ GE133.out) | exact HB.out)) hb); clear BK133; clear HB; have BK133 := n0_; have HB := n1_; clear n0_ n1_; (try clear hb); (try clear hb2); (try clear hk); (try clear hi))))
        go_meet
        case rel => exact ⟨_, (true), (by first | rfl | (simp; done) | (simp [*]; done)), H', ⟨by first | omega | exact Nat.le_refl _⟩, ⟨by (with_reducible repeat (first | refine blk_drewN ?_ _ | refine blk_drew ?_ | refine blk_alloc ?_ _)); exact BK133.out⟩, ⟨by repeat (first | (with_reducible first | exact HB.out | apply below_alloc | apply pw_below_drewN | apply below_drew1 | refine below_set ?_ GE133.out) | exact HB.out)⟩⟩
      · rw [if_neg c8] at H
        have c8b0 : decide (a2 < 0) = false := decide_eq_false c8
        clear c8
        (first | rw [c8b0] | (simp only [i64_w, i32_w]; rw [c8b0]) | skip)
        by_cases c11 : a2 > 64
        · rw [if_pos c11] at H
          have c11b0 : decide (64 < a2) = true := decide_eq_true c11
          clear c11
          have H' := Aside0.mk H
          clear H
          have hcz12_0 : w5.cell? ⟨gb133, 0, none⟩ = some (.slice A0_0 l0_0.length c0_0) := (blk_cell BK133.out 0).trans rfl
          have hcz12_1 : w5.cell? ⟨gb133, 1, none⟩ = some (.int .i64 a0_1) := (blk_cell BK133.out 1).trans rfl
          have hfz12_0 := blk_frozen BK133.out 0
          have hfz12_1 := blk_frozen BK133.out 1
          go_wp2_with (first | (go_at_call 113; (with_reducible refine (bits_Can.calls _ _ l0_0 a0_1 true _ ?side1 ?side2 A6.out).mono ?_); (case side1 => repeat (first | exact (Kd.C_below HR0_0.out HB.out) | (with_reducible refine Kd.C_alloc ?_ _) | (with_reducible refine Kd.C_drewN ?_ _) | (with_reducible refine Kd.C_drew ?_))); (case side2 => exact HC0_0.out); rintro e w13 ⟨rfl, hb⟩; have n0_ := Aside0.mk (blk_below (g := gb133) (o := .cells #[.slice A0_0 l0_0.length c0_0, .int .i64 a0_1] 99 (0, 0)) (by (with_reducible repeat (first | refine blk_drewN ?_ _ | refine blk_drew ?_ | refine blk_alloc ?_ _)); exact BK133.out) hb); have n1_ := Aside0.mk (below_step (by repeat (first | (with_reducible first | exact HB.out | apply below_alloc | apply pw_below_drewN | apply below_drew1 | refine below_set ?_ GE133.out) | exact HB.out)) hb); clear BK133; clear HB; have BK133 := n0_; have HB := n1_; clear n0_ n1_; (try clear hb); (try clear hb2); (try clear hk); (try clear hi)))
          repeat (go_quiet (first | (go_at_call 113; (with_reducible refine (bits_Can.calls _ _ l0_0 a0_1 true _ ?side1 ?side2 A6.out).mono ?_); (case side1 => repeat (first | exact (Kd.C_below HR0_0.out HB.out) | (with_reducible refine Kd.C_alloc ?_ _) | (with_reducible refine Kd.C_drewN ?_ _) | (with_reducible refine Kd.C_drew ?_))); (case side2 => exact HC0_0.out); rintro e w13 ⟨rfl, hb⟩; have n0_ := Aside0.mk (blk_below (g := gb133) (o := .cells #[.slice A0_0 l0_0.length c0_0, .int .i64 a0_1] 99 (0, 0)) (by (with_reducible repeat (first | refine blk_drewN ?_ _ | refine blk_drew ?_ | refine blk_alloc ?_ _)); exact BK133.out) hb); have n1_ := Aside0.mk (below_step (by repeat (first | (with_reducible first | exact HB.out | apply below_alloc | apply pw_below_drewN | apply below_drew1 | refine below_set ?_ GE133.out) | exact HB.out)) hb); clear BK133; clear HB; have BK133 := n0_; have HB := n1_; clear n0_ n1_; (try clear hb); (try clear hb2); (try clear hk); (try clear hi))); try go_wp2_with (first | (go_at_call 113; (with_reducible refine (bits_Can.calls _ _ l0_0 a0_1 true _ ?side1 ?side2 A6.out).mono ?_); (case side1 => repeat (first | exact (Kd.C_below HR0_0.out HB.out) | (with_reducible refine Kd.C_alloc ?_ _) | (with_reducible refine Kd.C_drewN ?_ _) | (with_reducible refine Kd.C_drew ?_))); (case side2 => exact HC0_0.out); rintro e w13 ⟨rfl, hb⟩; have n0_ := Aside0.mk (blk_below (g := gb133) (o := .cells #[.slice A0_0 l0_0.length c0_0, .int .i64 a0_1] 99 (0, 0)) (by (with_reducible repeat (first | refine blk_drewN ?_ _ | refine blk_drew ?_ | refine blk_alloc ?_ _)); exact BK133.out) hb); have n1_ := Aside0.mk (below_step (by repeat (first | (with_reducible first | exact HB.out | apply below_alloc | apply pw_below_drewN | apply below_drew1 | refine below_set ?_ GE133.out) | exact HB.out)) hb); clear BK133; clear HB; have BK133 := n0_; have HB := n1_; clear n0_ n1_; (try clear hb); (try clear hb2); (try clear hk); (try clear hi))))
          go_meet
          case rel => exact ⟨_, (true), (by first | rfl | (simp; done) | (simp [*]; done)), H', ⟨by first | omega | exact Nat.le_refl _⟩, ⟨by (with_reducible repeat (first | refine blk_drewN ?_ _ | refine blk_drew ?_ | refine blk_alloc ?_ _)); exact BK133.out⟩, ⟨by repeat (first | (with_reducible first | exact HB.out | apply below_alloc | apply pw_below_drewN | apply below_drew1 | refine below_set ?_ GE133.out) | exact HB.out)⟩⟩
        · rw [if_neg c11] at H
          have c11b0 : decide (64 < a2) = false := decide_eq_false c11
          clear c11
          by_cases c14 : a1 < 0
          · rw [if_pos c14] at H
            have c14b0 : decide (a1 < 0) = true := decide_eq_true c14
            clear c14
            have H' := Aside0.mk H
            clear H
            have hcz15_0 : w5.cell? ⟨gb133, 0, none⟩ = some (.slice A0_0 l0_0.length c0_0) := (blk_cell BK133.out 0).trans rfl
            have hcz15_1 : w5.cell? ⟨gb133, 1, none⟩ = some (.int .i64 a0_1) := (blk_cell BK133.out 1).trans rfl
            have hfz15_0 := blk_frozen BK133.out 0
            have hfz15_1 := blk_frozen BK133.out 1
            go_wp2_with (first | (go_at_call 113; (with_reducible refine (bits_Can.calls _ _ l0_0 a0_1 true _ ?side1 ?side2 A6.out).mono ?_); (case side1 => repeat (first | exact (Kd.C_below HR0_0.out HB.out) | (with_reducible refine Kd.C_alloc ?_ _) | (with_reducible refine Kd.C_drewN ?_ _) | (with_reducible refine Kd.C_drew ?_))); (case side2 => exact HC0_0.out); rintro e w16 ⟨rfl, hb⟩; have n0_ := Aside0.mk (blk_below (g := gb133) (o := .cells #[.slice A0_0 l0_0.length c0_0, .int .i64 a0_1] 99 (0, 0)) (by (with_reducible repeat (first | refine blk_drewN ?_ _ | refine blk_drew ?_ | refine blk_alloc ?_ _)); exact BK133.out) hb); have n1_ := Aside0.mk (below_step (by repeat (first | (with_reducible first | exact HB.out | apply below_alloc | apply pw_below_drewN | apply below_drew1 | refine below_set ?_ GE133.out) | exact HB.out)) hb); clear BK133; clear HB; have BK133 := n0_; have HB := n1_; clear n0_ n1_; (try clear hb); (try clear hb2); (try clear hk); (try clear hi)))
            repeat (go_quiet (first | (go_at_call 113; (with_reducible refine (bits_Can.calls _ _ l0_0 a0_1 true _ ?side1 ?side2 A6.out).mono ?_); (case side1 => repeat (first | exact (Kd.C_below HR0_0.out HB.out) | (with_reducible refine Kd.C_alloc ?_ _) | (with_reducible refine Kd.C_drewN ?_ _) | (with_reducible refine Kd.C_drew ?_))); (case side2 => exact HC0_0.out); rintro e w16 ⟨rfl, hb⟩; have n0_ := Aside0.mk (blk_below (g := gb133) (o := .cells #[.slice A0_0 l0_0.length c0_0, .int .i64 a0_1] 99 (0, 0)) (by (with_reducible repeat (first | refine blk_drewN ?_ _ | refine blk_drew ?_ | refine blk_alloc ?_ _)); exact BK133.out) hb); have n1_ := Aside0.mk (below_step (by repeat (first | (with_reducible first | exact HB.out | apply below_alloc | apply pw_below_drewN | apply below_drew1 | refine below_set ?_ GE133.out) | exact HB.out)) hb); clear BK133; clear HB; have BK133 := n0_; have HB := n1_; clear n0_ n1_; (try clear hb); (try clear hb2); (try clear hk); (try clear hi))); try go_wp2_with (first | (go_at_call 113; (with_reducible refine (bits_Can.calls _ _ l0_0 a0_1 true _ ?side1 ?side2 A6.out).mono ?_); (case side1 => repeat (first | exact (Kd.C_below HR0_0.out HB.out) | (with_reducible refine Kd.C_alloc ?_ _) | (with_reducible refine Kd.C_drewN ?_ _) | (with_reducible refine Kd.C_drew ?_))); (case side2 => exact HC0_0.out); rintro e w16 ⟨rfl, hb⟩; have n0_ := Aside0.mk (blk_below (g := gb133) (o := .cells #[.slice A0_0 l0_0.length c0_0, .int .i64 a0_1] 99 (0, 0)) (by (with_reducible repeat (first | refine blk_drewN ?_ _ | refine blk_drew ?_ | refine blk_alloc ?_ _)); exact BK133.out) hb); have n1_ := Aside0.mk (below_step (by repeat (first | (with_reducible first | exact HB.out | apply below_alloc | apply pw_below_drewN | apply below_drew1 | refine below_set ?_ GE133.out) | exact HB.out)) hb); clear BK133; clear HB; have BK133 := n0_; have HB := n1_; clear n0_ n1_; (try clear hb); (try clear hb2); (try clear hk); (try clear hi))))
            go_meet
            case rel => exact ⟨_, (true), (by first | rfl | (simp; done) | (simp [*]; done)), H', ⟨by first | omega | exact Nat.le_refl _⟩, ⟨by (with_reducible repeat (first | refine blk_drewN ?_ _ | refine blk_drew ?_ | refine blk_alloc ?_ _)); exact BK133.out⟩, ⟨by repeat (first | (with_reducible first | exact HB.out | apply below_alloc | apply pw_below_drewN | apply below_drew1 | refine below_set ?_ GE133.out) | exact HB.out)⟩⟩
          · rw [if_neg c14] at H
            have c14b0 : decide (a1 < 0) = false := decide_eq_false c14
            clear c14
            have H' := Aside0.mk H
            clear H
            have hcz17_0 : w5.cell? ⟨gb133, 0, none⟩ = some (.slice A0_0 l0_0.length c0_0) := (blk_cell BK133.out 0).trans rfl
            have hcz17_1 : w5.cell? ⟨gb133, 1, none⟩ = some (.int .i64 a0_1) := (blk_cell BK133.out 1).trans rfl
            have hfz17_0 := blk_frozen BK133.out 0
            have hfz17_1 := blk_frozen BK133.out 1
            go_wp2_with (first | (go_at_call 113; (with_reducible refine (bits_Can.calls _ _ l0_0 a0_1 true _ ?side1 ?side2 A6.out).mono ?_); (case side1 => repeat (first | exact (Kd.C_below HR0_0.out HB.out) | (with_reducible refine Kd.C_alloc ?_ _) | (with_reducible refine Kd.C_drewN ?_ _) | (with_reducible refine Kd.C_drew ?_))); (case side2 => exact HC0_0.out); rintro e w18 ⟨rfl, hb⟩; have n0_ := Aside0.mk (blk_below (g := gb133) (o := .cells #[.slice A0_0 l0_0.length c0_0, .int .i64 a0_1] 99 (0, 0)) (by (with_reducible repeat (first | refine blk_drewN ?_ _ | refine blk_drew ?_ | refine blk_alloc ?_ _)); exact BK133.out) hb); have n1_ := Aside0.mk (below_step (by repeat (first | (with_reducible first | exact HB.out | apply below_alloc | apply pw_below_drewN | apply below_drew1 | refine below_set ?_ GE133.out) | exact HB.out)) hb); clear BK133; clear HB; have BK133 := n0_; have HB := n1_; clear n0_ n1_; (try clear hb); (try clear hb2); (try clear hk); (try clear hi); have hcz19_0 : w18.cell? ⟨gb133, 0, none⟩ = some (.slice A0_0 l0_0.length c0_0) := (blk_cell BK133.out 0).trans rfl; have hcz19_1 : w18.cell? ⟨gb133, 1, none⟩ = some (.int .i64 a0_1) := (blk_cell BK133.out 1).trans rfl; have hfz19_0 := blk_frozen BK133.out 0; have hfz19_1 := blk_frozen BK133.out 1))
            repeat (go_quiet (first | (go_at_call 113; (with_reducible refine (bits_Can.calls _ _ l0_0 a0_1 true _ ?side1 ?side2 A6.out).mono ?_); (case side1 => repeat (first | exact (Kd.C_below HR0_0.out HB.out) | (with_reducible refine Kd.C_alloc ?_ _) | (with_reducible refine Kd.C_drewN ?_ _) | (with_reducible refine Kd.C_drew ?_))); (case side2 => exact HC0_0.out); rintro e w18 ⟨rfl, hb⟩; have n0_ := Aside0.mk (blk_below (g := gb133) (o := .cells #[.slice A0_0 l0_0.length c0_0, .int .i64 a0_1] 99 (0, 0)) (by (with_reducible repeat (first | refine blk_drewN ?_ _ | refine blk_drew ?_ | refine blk_alloc ?_ _)); exact BK133.out) hb); have n1_ := Aside0.mk (below_step (by repeat (first | (with_reducible first | exact HB.out | apply below_alloc | apply pw_below_drewN | apply below_drew1 | refine below_set ?_ GE133.out) | exact HB.out)) hb); clear BK133; clear HB; have BK133 := n0_; have HB := n1_; clear n0_ n1_; (try clear hb); (try clear hb2); (try clear hk); (try clear hi); have hcz19_0 : w18.cell? ⟨gb133, 0, none⟩ = some (.slice A0_0 l0_0.length c0_0) := (blk_cell BK133.out 0).trans rfl; have hcz19_1 : w18.cell? ⟨gb133, 1, none⟩ = some (.int .i64 a0_1) := (blk_cell BK133.out 1).trans rfl; have hfz19_0 := blk_frozen BK133.out 0; have hfz19_1 := blk_frozen BK133.out 1)); try go_wp2_with (first | (go_at_call 113; (with_reducible refine (bits_Can.calls _ _ l0_0 a0_1 true _ ?side1 ?side2 A6.out).mono ?_); (case side1 => repeat (first | exact (Kd.C_below HR0_0.out HB.out) | (with_reducible refine Kd.C_alloc ?_ _) | (with_reducible refine Kd.C_drewN ?_ _) | (with_reducible refine Kd.C_drew ?_))); (case side2 => exact HC0_0.out); rintro e w18 ⟨rfl, hb⟩; have n0_ := Aside0.mk (blk_below (g := gb133) (o := .cells #[.slice A0_0 l0_0.length c0_0, .int .i64 a0_1] 99 (0, 0)) (by (with_reducible repeat (first | refine blk_drewN ?_ _ | refine blk_drew ?_ | refine blk_alloc ?_ _)); exact BK133.out) hb); have n1_ := Aside0.mk (below_step (by repeat (first | (with_reducible first | exact HB.out | apply below_alloc | apply pw_below_drewN | apply below_drew1 | refine below_set ?_ GE133.out) | exact HB.out)) hb); clear BK133; clear HB; have BK133 := n0_; have HB := n1_; clear n0_ n1_; (try clear hb); (try clear hb2); (try clear hk); (try clear hi); have hcz19_0 : w18.cell? ⟨gb133, 0, none⟩ = some (.slice A0_0 l0_0.length c0_0) := (blk_cell BK133.out 0).trans rfl; have hcz19_1 : w18.cell? ⟨gb133, 1, none⟩ = some (.int .i64 a0_1) := (blk_cell BK133.out 1).trans rfl; have hfz19_0 := blk_frozen BK133.out 0; have hfz19_1 := blk_frozen BK133.out 1)))
            go_meet
            case rel => exact ⟨_, (decide (a1 > a0_1)), (by first | rfl | (simp; done) | (simp [*]; done)), H', ⟨by first | omega | exact Nat.le_refl _⟩, ⟨by (with_reducible repeat (first | refine blk_drewN ?_ _ | refine blk_drew ?_ | refine blk_alloc ?_ _)); exact BK133.out⟩, ⟨by repeat (first | (with_reducible first | exact HB.out | apply below_alloc | apply pw_below_drewN | apply below_drew1 | refine below_set ?_ GE133.out) | exact HB.out)⟩⟩
    · replace c7 := Bool.eq_false_iff.mpr c7
      subst c7
      have H1 : (bits_Take.j0 k a1 a2 true l0_0 a0_1) = some (r1, r2) := by rw [if_neg (show ¬ (false = true) by decide)] at H; exact H
      clear H
      have H := H1
      clear H1
      have H' := Aside0.mk H
      clear H
      have hcz20_0 : w5.cell? ⟨gb133, 0, none⟩ = some (.slice A0_0 l0_0.length c0_0) := (blk_cell BK133.out 0).trans rfl
      have hcz20_1 : w5.cell? ⟨gb133, 1, none⟩ = some (.int .i64 a0_1) := (blk_cell BK133.out 1).trans rfl
      have hfz20_0 := blk_frozen BK133.out 0
      have hfz20_1 := blk_frozen BK133.out 1
      go_wp2_with (first | (go_at_call 113; (with_reducible refine (bits_Can.calls _ _ l0_0 a0_1 false _ ?side1 ?side2 A6.out).mono ?_); (case side1 => repeat (first | exact (Kd.C_below HR0_0.out HB.out) | (with_reducible refine Kd.C_alloc ?_ _) | (with_reducible refine Kd.C_drewN ?_ _) | (with_reducible refine Kd.C_drew ?_))); (case side2 => exact HC0_0.out); rintro e w21 ⟨rfl, hb⟩; have n0_ := Aside0.mk (blk_below (g := gb133) (o := .cells #[.slice A0_0 l0_0.length c0_0, .int .i64 a0_1] 99 (0, 0)) (by (with_reducible repeat (first | refine blk_drewN ?_ _ | refine blk_drew ?_ | refine blk_alloc ?_ _)); exact BK133.out) hb); have n1_ := Aside0.mk (below_step (by repeat (first | (with_reducible first | exact HB.out | apply below_alloc | apply pw_below_drewN | apply below_drew1 | refine below_set ?_ GE133.out) | exact HB.out)) hb); clear BK133; clear HB; have BK133 := n0_; have HB := n1_; clear n0_ n1_; (try clear hb); (try clear hb2); (try clear hk); (try clear hi)))
      repeat (go_quiet (first | (go_at_call 113; (with_reducible refine (bits_Can.calls _ _ l0_0 a0_1 false _ ?side1 ?side2 A6.out).mono ?_); (case side1 => repeat (first | exact (Kd.C_below HR0_0.out HB.out) | (with_reducible refine Kd.C_alloc ?_ _) | (with_reducible refine Kd.C_drewN ?_ _) | (with_reducible refine Kd.C_drew ?_))); (case side2 => exact HC0_0.out); rintro e w21 ⟨rfl, hb⟩; have n0_ := Aside0.mk (blk_below (g := gb133) (o := .cells #[.slice A0_0 l0_0.length c0_0, .int .i64 a0_1] 99 (0, 0)) (by (with_reducible repeat (first | refine blk_drewN ?_ _ | refine blk_drew ?_ | refine blk_alloc ?_ _)); exact BK133.out) hb); have n1_ := Aside0.mk (below_step (by repeat (first | (with_reducible first | exact HB.out | apply below_alloc | apply pw_below_drewN | apply below_drew1 | refine below_set ?_ GE133.out) | exact HB.out)) hb); clear BK133; clear HB; have BK133 := n0_; have HB := n1_; clear n0_ n1_; (try clear hb); (try clear hb2); (try clear hk); (try clear hi))); try go_wp2_with (first | (go_at_call 113; (with_reducible refine (bits_Can.calls _ _ l0_0 a0_1 false _ ?side1 ?side2 A6.out).mono ?_); (case side1 => repeat (first | exact (Kd.C_below HR0_0.out HB.out) | (with_reducible refine Kd.C_alloc ?_ _) | (with_reducible refine Kd.C_drewN ?_ _) | (with_reducible refine Kd.C_drew ?_))); (case side2 => exact HC0_0.out); rintro e w21 ⟨rfl, hb⟩; have n0_ := Aside0.mk (blk_below (g := gb133) (o := .cells #[.slice A0_0 l0_0.length c0_0, .int .i64 a0_1] 99 (0, 0)) (by (with_reducible repeat (first | refine blk_drewN ?_ _ | refine blk_drew ?_ | refine blk_alloc ?_ _)); exact BK133.out) hb); have n1_ := Aside0.mk (below_step (by repeat (first | (with_reducible first | exact HB.out | apply below_alloc | apply pw_below_drewN | apply below_drew1 | refine below_set ?_ GE133.out) | exact HB.out)) hb); clear BK133; clear HB; have BK133 := n0_; have HB := n1_; clear n0_ n1_; (try clear hb); (try clear hb2); (try clear hk); (try clear hi))))
      go_meet
      case rel => exact ⟨_, (true), (by first | rfl | (simp; done) | (simp [*]; done)), H', ⟨by first | omega | exact Nat.le_refl _⟩, ⟨by (with_reducible repeat (first | refine blk_drewN ?_ _ | refine blk_drew ?_ | refine blk_alloc ?_ _)); exact BK133.out⟩, ⟨by repeat (first | (with_reducible first | exact HB.out | apply below_alloc | apply pw_below_drewN | apply below_drew1 | refine below_set ?_ GE133.out) | exact HB.out)⟩⟩
  case rest =>
    clear HC4
    try clear c1
    try clear p2
    try clear c7
    try clear c8
    try clear c8b0
    try clear c11
    try clear c11b0
    try clear c14
    try clear c14b0
    try clear hcz12_0
    try clear hcz12_1
    try clear hcz15_0
    try clear hcz15_1
    try clear hcz17_0
    try clear hcz17_1
    try clear hcz19_0
    try clear hcz19_1
    try clear hcz20_0
    try clear hcz20_1
    try clear hcz9_0
    try clear hcz9_1
    try clear hfz12_0
    try clear hfz12_1
    try clear hfz15_0
    try clear hfz15_1
    try clear hfz17_0
    try clear hfz17_1
    try clear hfz19_0
    try clear hfz19_1
    try clear hfz20_0
    try clear hfz20_1
    try clear hfz9_0
    try clear hfz9_1
    obtain ⟨kq, x11_3, rfl, HA, HJ3, BK133, HB⟩ := hcut
    cases kq with
    | zero => exact absurd HA.out (by simp [bits_Take.j0])
    | succ kj3 =>
      have H := HA.out
      clear HA
      simp only [bits_Take.j0] at H
      by_cases c22 : x11_3 = true
      · subst c22
        have H1 : (some (0, 1)) = some (r1, r2) := by rw [if_pos rfl] at H; exact H
        clear H
        have H := H1
        clear H1
        simp only [Option.some.injEq, Prod.mk.injEq] at H
        obtain ⟨rfl, rfl⟩ := H
        go_wp2
        repeat (go_quiet (fail); try go_wp2)
        go_ret2
        exact ⟨by first | rfl | (simp [errW_none, errW_some] <;> rfl) | (simp [*, errW_none, errW_some] <;> rfl), by repeat (first | (with_reducible first | exact HB.out | apply below_alloc | apply pw_below_drewN | apply below_drew1 | refine below_set ?_ GE133.out) | exact HB.out)⟩
      · replace c22 := Bool.eq_false_iff.mpr c22
        subst c22
        have H1 : (if (wrap64 (a0_1 - a1)) < a2 then (some (0, 3)) else (bits_Take.l0 kj3 a1 a2 0 l0_0 a0_1)) = some (r1, r2) := by rw [if_neg (show ¬ (false = true) by decide)] at H; exact H
        clear H
        have H := H1
        clear H1
        by_cases c23 : (wrap64 (a0_1 - a1)) < a2
        · rw [if_pos c23] at H
          have c23b0 : decide ((wrap64 (a0_1 - a1)) < a2) = true := decide_eq_true c23
          clear c23
          simp only [Option.some.injEq, Prod.mk.injEq] at H
          obtain ⟨rfl, rfl⟩ := H
          have hcz24_0 : wc.cell? ⟨gb133, 0, none⟩ = some (.slice A0_0 l0_0.length c0_0) := (blk_cell BK133.out 0).trans rfl
          have hcz24_1 : wc.cell? ⟨gb133, 1, none⟩ = some (.int .i64 a0_1) := (blk_cell BK133.out 1).trans rfl
          have hfz24_0 := blk_frozen BK133.out 0
          have hfz24_1 := blk_frozen BK133.out 1
          go_wp2
          repeat (go_quiet (fail); try go_wp2)
          go_ret2
          exact ⟨by first | rfl | (simp [errW_none, errW_some] <;> rfl) | (simp [*, errW_none, errW_some] <;> rfl), by repeat (first | (with_reducible first | exact HB.out | apply below_alloc | apply pw_below_drewN | apply below_drew1 | refine below_set ?_ GE133.out) | exact HB.out)⟩
        · rw [if_neg c23] at H
          have c23b0 : decide ((wrap64 (a0_1 - a1)) < a2) = false := decide_eq_false c23
          clear c23
          have H' := Aside0.mk H
          clear H
          have hcz25_0 : wc.cell? ⟨gb133, 0, none⟩ = some (.slice A0_0 l0_0.length c0_0) := (blk_cell BK133.out 0).trans rfl
          have hcz25_1 : wc.cell? ⟨gb133, 1, none⟩ = some (.int .i64 a0_1) := (blk_cell BK133.out 1).trans rfl
          have hfz25_0 := blk_frozen BK133.out 0
          have hfz25_1 := blk_frozen BK133.out 1
          go_wp2
          repeat (go_quiet (fail); try go_wp2)
          go_loopg [1, 2, 8] kj3 (fun kq v1 v2 v8 w' => ∃ (x1_2 : Int) (x2_2 : Int) (x8_2 : Int), v1 = .int .i64 x1_2 ∧ v2 = .int .i64 x2_2 ∧ v8 = .int .u64 x8_2 ∧ Aside0 (bits_Take.l0 kq x1_2 x2_2 x8_2 l0_0 a0_1 = some (r1, r2)) ∧ Aside0 (kq ≤ kj3) ∧ Aside0 (w'.heap[gb133]? = some (.cells #[(.slice A0_0 l0_0.length c0_0), .int .i64 a0_1] 99 (0, 0))) ∧ Aside0 (Below w.heap.size w w'))
          case atStart => exact ⟨(a1), (a2), (0), (by first | rfl | (simp; done) | (simp [*]; done)), (by first | rfl | (simp; done) | (simp [*]; done)), (by first | rfl | (simp; done) | (simp [*]; done)), H', ⟨Nat.le_refl _⟩, ⟨by (with_reducible repeat (first | refine blk_drewN ?_ _ | refine blk_drew ?_ | refine blk_alloc ?_ _)); exact BK133.out⟩, ⟨by repeat (first | (with_reducible first | exact HB.out | apply below_alloc | apply pw_below_drewN | apply below_drew1 | refine below_set ?_ GE133.out) | exact HB.out)⟩⟩
          case round =>
            clear H'
            try clear c1
            try clear c2
            try clear p2
            try clear p6
            try clear c7
            try clear c8
            try clear c8b0
            try clear c11
            try clear c11b0
            try clear c14
            try clear c14b0
            try clear c22
            try clear c23
            try clear c23b0
            try clear hcz12_0
            try clear hcz12_1
            try clear hcz15_0
            try clear hcz15_1
            try clear hcz17_0
            try clear hcz17_1
            try clear hcz19_0
            try clear hcz19_1
            try clear hcz20_0
            try clear hcz20_1
            try clear hcz24_0
            try clear hcz24_1
            try clear hcz25_0
            try clear hcz25_1
            try clear hcz9_0
            try clear hcz9_1
            try clear hfz12_0
            try clear hfz12_1
            try clear hfz15_0
            try clear hfz15_1
            try clear hfz17_0
            try clear hfz17_1
            try clear hfz19_0
            try clear hfz19_1
            try clear hfz20_0
            try clear hfz20_1
            try clear hfz24_0
            try clear hfz24_1
            try clear hfz25_0
            try clear hfz25_1
            try clear hfz9_0
            try clear hfz9_1
            try clear p2
            obtain ⟨x1_2, x2_2, x8_2, rfl, rfl, rfl, HA, HK2, BK133, HB⟩ := hrel
            cases gk with
            | zero => exact absurd HA.out (by simp [bits_Take.l0])
            | succ k2 =>
              have H := HA.out
              clear HA
              simp only [bits_Take.l0] at H
              by_cases c26 : x2_2 > 0
              · rw [if_pos c26] at H
                have c26b0 : decide (0 < x2_2) = true := decide_eq_true c26
                clear c26
                obtain ⟨ji27, hji27⟩ : ∃ j_ : Int, (mn (wrap64 (8 - (Int.tmod x1_2 8))) x2_2) = j_ := ⟨_, rfl⟩
                replace H : (if 0 ≤ (ji27) then (if 0 ≤ (wrap64 (Int.tdiv x1_2 8)) then (if (wrap64 (Int.tdiv x1_2 8)) < (l0_0.length : Int) then (if 0 ≤ (wrap64 ((wrap64 (8 - (Int.tmod x1_2 8))) - (ji27))) then (bits_Take.l0 k2 (wrap64 (x1_2 + (ji27))) (wrap64 (x2_2 - (ji27))) (Go.bits .or .u64 (shl .u64 x8_2 (ji27)) (IntKind.u64.wrap (Go.bits .and .u8 (shr .u8 (rd l0_0 (wrap64 (Int.tdiv x1_2 8))) (wrap64 ((wrap64 (8 - (Int.tmod x1_2 8))) - (ji27)))) (((shl .u8 1 (ji27)) - 1) % 256)))) l0_0 a0_1) else (none)) else (none)) else (none)) else (none)) = some (r1, r2) := by first | (rw [hji27] at H; exact H) | (simp only [hji27] at H ⊢; exact H)
                have hji27_ : (if x2_2 < (wrap64 (8 - (Int.tmod x1_2 8))) then x2_2 else (wrap64 (8 - (Int.tmod x1_2 8)))) = ji27 := hji27
                by_cases c28 : 0 ≤ (ji27)
                · rw [if_pos c28] at H
                  have c28b0 := eq_true c28
                  have c28b1 : decide (0 ≤ (ji27)) = true := decide_eq_true c28
                  clear c28
                  obtain ⟨ji29, hji29⟩ : ∃ j_ : Int, (shl .u64 x8_2 (ji27)) = j_ := ⟨_, rfl⟩
                  replace H : (if 0 ≤ (wrap64 (Int.tdiv x1_2 8)) then (if (wrap64 (Int.tdiv x1_2 8)) < (l0_0.length : Int) then (if 0 ≤ (wrap64 ((wrap64 (8 - (Int.tmod x1_2 8))) - (ji27))) then (bits_Take.l0 k2 (wrap64 (x1_2 + (ji27))) (wrap64 (x2_2 - (ji27))) (Go.bits .or .u64 (ji29) (IntKind.u64.wrap (Go.bits .and .u8 (shr .u8 (rd l0_0 (wrap64 (Int.tdiv x1_2 8))) (wrap64 ((wrap64 (8 - (Int.tmod x1_2 8))) - (ji27)))) (((shl .u8 1 (ji27)) - 1) % 256)))) l0_0 a0_1) else (none)) else (none)) else (none)) = some (r1, r2) := by first | (rw [hji29] at H; exact H) | (simp only [hji29] at H ⊢; exact H)
                  have hji29_ : (IntKind.u64.wrap (x8_2 * 2 ^ min (ji27).toNat 64)) = ji29 := hji29
                  have hji29z : (ji27) ≤ 64 → (IntKind.u64.wrap (x8_2 * 2 ^ (ji27).toNat)) = ji29 := shl_small hji29
                  obtain ⟨ji30, hji30⟩ : ∃ j_ : Int, (wrap64 (Int.tdiv x1_2 8)) = j_ := ⟨_, rfl⟩
                  replace H : (if 0 ≤ (ji30) then (if (ji30) < (l0_0.length : Int) then (if 0 ≤ (wrap64 ((wrap64 (8 - (Int.tmod x1_2 8))) - (ji27))) then (bits_Take.l0 k2 (wrap64 (x1_2 + (ji27))) (wrap64 (x2_2 - (ji27))) (Go.bits .or .u64 (ji29) (IntKind.u64.wrap (Go.bits .and .u8 (shr .u8 (rd l0_0 (ji30)) (wrap64 ((wrap64 (8 - (Int.tmod x1_2 8))) - (ji27)))) (((shl .u8 1 (ji27)) - 1) % 256)))) l0_0 a0_1) else (none)) else (none)) else (none)) = some (r1, r2) := by first | (rw [hji30] at H; exact H) | (simp only [hji30] at H ⊢; exact H)
                  have hji30w : (IntKind.i64.wrap (Int.tdiv x1_2 8)) = ji30 := (i64_w _).trans hji30
                  by_cases c31 : 0 ≤ (ji30)
                  · rw [if_pos c31] at H
                    have c31b0 : decide (0 ≤ (ji30)) = true := decide_eq_true c31
                    clear c31
                    by_cases c32 : (ji30) < (l0_0.length : Int)
                    · rw [if_pos c32] at H
                      have c32b0 : decide ((ji30) < (l0_0.length : Int)) = true := decide_eq_true c32
                      clear c32
                      obtain ⟨ji33, hji33⟩ : ∃ j_ : Int, (wrap64 ((wrap64 (8 - (Int.tmod x1_2 8))) - (ji27))) = j_ := ⟨_, rfl⟩
                      replace H : (if 0 ≤ (ji33) then (bits_Take.l0 k2 (wrap64 (x1_2 + (ji27))) (wrap64 (x2_2 - (ji27))) (Go.bits .or .u64 (ji29) (IntKind.u64.wrap (Go.bits .and .u8 (shr .u8 (rd l0_0 (ji30)) (ji33)) (((shl .u8 1 (ji27)) - 1) % 256)))) l0_0 a0_1) else (none)) = some (r1, r2) := by first | (rw [hji33] at H; exact H) | (simp only [hji33] at H ⊢; exact H)
                      have hji33w : (IntKind.i64.wrap ((wrap64 (8 - (Int.tmod x1_2 8))) - (ji27))) = ji33 := (i64_w _).trans hji33
                      by_cases c34 : 0 ≤ (ji33)
                      · rw [if_pos c34] at H
                        have c34b0 := eq_true c34
                        have c34b1 : decide (0 ≤ (ji33)) = true := decide_eq_true c34
                        clear c34
                        obtain ⟨ji35, hji35⟩ : ∃ j_ : Int, (shr .u8 (rd l0_0 (ji30)) (ji33)) = j_ := ⟨_, rfl⟩
                        replace H : (bits_Take.l0 k2 (wrap64 (x1_2 + (ji27))) (wrap64 (x2_2 - (ji27))) (Go.bits .or .u64 (ji29) (IntKind.u64.wrap (Go.bits .and .u8 (ji35) (((shl .u8 1 (ji27)) - 1) % 256)))) l0_0 a0_1) = some (r1, r2) := by first | (rw [hji35] at H; exact H) | (simp only [hji35] at H ⊢; exact H)
                        have hji35_ : ((rd l0_0 (ji30)) / 2 ^ min (ji33).toNat 8) = ji35 := hji35
                        have hji35z : (ji33) ≤ 8 → ((rd l0_0 (ji30)) / 2 ^ (ji33).toNat) = ji35 := shr_small hji35
                        have c36b0 := eq_true (of_decide_eq_true (by first | (with_reducible assumption) | assumption) : 0 ≤ (ji27))
                        obtain ⟨ji37, hji37⟩ : ∃ j_ : Int, (shl .u8 1 (ji27)) = j_ := ⟨_, rfl⟩
                        replace H : (bits_Take.l0 k2 (wrap64 (x1_2 + (ji27))) (wrap64 (x2_2 - (ji27))) (Go.bits .or .u64 (ji29) (IntKind.u64.wrap (Go.bits .and .u8 (ji35) (((ji37) - 1) % 256)))) l0_0 a0_1) = some (r1, r2) := by first | (rw [hji37] at H; exact H) | (simp only [hji37] at H ⊢; exact H)
                        have hji37_ : (IntKind.u8.wrap (1 * 2 ^ min (ji27).toNat 8)) = ji37 := hji37
                        have hji37z : (ji27) ≤ 8 → (IntKind.u8.wrap (1 * 2 ^ (ji27).toNat)) = ji37 := shl_small hji37
                        have hji37u : (IntKind.u8.wrap (2 ^ min (ji27).toNat 8)) = ji37 := by have h_ := hji37_; rw [Int.one_mul] at h_; exact h_
                        have hji37v : (ji27) ≤ 8 → (IntKind.u8.wrap (2 ^ (ji27).toNat)) = ji37 := fun hle_ => by have h_ := hji37z hle_; rw [Int.one_mul] at h_; exact h_
                        have H' := Aside0.mk H
                        clear H
                        have hcz38_0 : wr.cell? ⟨gb133, 0, none⟩ = some (.slice A0_0 l0_0.length c0_0) := (blk_cell BK133.out 0).trans rfl
                        have hcz38_1 : wr.cell? ⟨gb133, 1, none⟩ = some (.int .i64 a0_1) := (blk_cell BK133.out 1).trans rfl
                        have hfz38_0 := blk_frozen BK133.out 0
                        have hfz38_1 := blk_frozen BK133.out 1
                        have p135 : 0 ≤ ((ji30) : Int) := of_decide_eq_true (by first | (with_reducible assumption) | assumption)
                        have q135 : (ji30) < (l0_0.length : Int) := of_decide_eq_true (by first | (with_reducible assumption) | assumption)
                        obtain ⟨ad135, e135, hx135_0⟩ := Kd.at_int HR0_0.out (ji30) p135 q135
                        cases e135
                        replace hx135_0 := (HB.out.cell (World.block_lt_of_cell? w _ hx135_0)).trans hx135_0
                        replace p135 := eq_true p135
                        replace q135 := eq_true q135
                        go_wp2
                        repeat (go_quiet (fail); try go_wp2)
                        go_roundg k2
                        case measure => have := HJ3.out; have := HK2.out; omega
                        case rel => exact ⟨(wrap64 (x1_2 + (ji27))), (wrap64 (x2_2 - (ji27))), (Go.bits .or .u64 (ji29) (IntKind.u64.wrap (Go.bits .and .u8 (ji35) (((ji37) - 1) % 256)))), (by first | rfl | (simp; done) | (simp only [← hji27] <;> (first | rfl | simp)) | (simp [*]; done)), (by first | rfl | (simp; done) | (simp only [← hji27] <;> (first | rfl | simp)) | (simp [*]; done)), (by first | rfl | (simp; done) | (simp only [← hji29, ← hji35, ← hji37] <;> (first | rfl | simp)) | (simp [*]; done)), H', ⟨by have := HJ3.out; have := HK2.out; omega⟩, ⟨by (with_reducible repeat (first | refine blk_drewN ?_ _ | refine blk_drew ?_ | refine blk_alloc ?_ _)); exact BK133.out⟩, ⟨by repeat (first | (with_reducible first | exact HB.out | apply below_alloc | apply pw_below_drewN | apply below_drew1 | refine below_set ?_ GE133.out) | exact HB.out)⟩⟩
                      · rw [if_neg c34] at H
                        exact absurd H (by simp)
                    · rw [if_neg c32] at H
                      exact absurd H (by simp)
                  · rw [if_neg c31] at H
                    exact absurd H (by simp)
                · rw [if_neg c28] at H
                  exact absurd H (by simp)
              · rw [if_neg c26] at H
                have c26b0 : decide (0 < x2_2) = false := decide_eq_false c26
                clear c26
                simp only [Option.some.injEq, Prod.mk.injEq] at H
                obtain ⟨rfl, rfl⟩ := H
                go_wp2
                repeat (go_quiet (fail); try go_wp2)
                go_ret2
                exact ⟨by first | rfl | (simp [errW_none, errW_some] <;> rfl) | (simp [*, errW_none, errW_some] <;> rfl), by repeat (first | (with_reducible first | exact HB.out | apply below_alloc | apply pw_below_drewN | apply below_drew1 | refine below_set ?_ GE133.out) | exact HB.out)⟩

end Go.Proofs.YtbgmnmjokdfmlaaDoor.PA

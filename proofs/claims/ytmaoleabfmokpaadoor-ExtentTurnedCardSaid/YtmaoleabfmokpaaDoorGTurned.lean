/- A byte that is another one: sums of texts that part in one byte alone part. -/
import Derived.Test.YtmaoleabfmokpaaDoorEMath
namespace Go.Proofs.YtmaoleabfmokpaaDoor.G
open Go.RowKit Go.Proofs.YtmaoleabfmokpaaDoorW.PrintWords Go.Proofs.YtmaoleabfmokpaaDoorW.PrintLast Go.Proofs.YtmaoleabfmokpaaDoorW.PrintMore
set_option linter.unusedVariables false
set_option linter.unusedSimpArgs false
/-- a byte, turned -/
def turned (l : List Int) (i : Nat) (m : Int) : List Int := l.set i (Go.bits .xor .u8 (rd l (i : Int)) (Go.bits .or .u8 m 1))
theorem turned_byte (x m : Int) (hx : 0 ≤ x ∧ x < 256) (hm : 0 ≤ m ∧ m < 256) :
    0 ≤ Go.bits .xor .u8 x (Go.bits .or .u8 m 1) ∧ Go.bits .xor .u8 x (Go.bits .or .u8 m 1) < 256 ∧ Go.bits .xor .u8 x (Go.bits .or .u8 m 1) ≠ x := by
  obtain ⟨X, rfl⟩ := Int.eq_ofNat_of_zero_le hx.1
  obtain ⟨M, rfl⟩ := Int.eq_ofNat_of_zero_le hm.1
  have hX : X < 256 := by omega
  have hM : M < 256 := by omega
  rw [show (1 : Int) = ((1 : Nat) : Int) from rfl, u8_or_nat M 1 hM (by omega)]
  have h1 : M ||| 1 < 256 := Nat.or_lt_two_pow (n := 8) hM (by decide)
  rw [u8_xor_nat X (M ||| 1) hX h1]
  have h2 : X ^^^ (M ||| 1) < 256 := Nat.xor_lt_two_pow (n := 8) hX h1
  refine ⟨by omega, by omega, fun h => ?_⟩
  have h3 : X ^^^ (M ||| 1) = X := by omega
  have h4 : M ||| 1 = 0 := CrcMath.xor_lc (c := X) (by rw [h3, Nat.xor_zero])
  have h5 : (M ||| 1) % 2 = 1 := by
    rw [Nat.or_mod_two_eq_one]
    exact .inr rfl
  rw [h4] at h5
  exact absurd h5 (by decide)
theorem nat_split (l : List Int) (i : Nat) (hi : i < l.length) (y : Int) : CrcMath.nat (l.set i y) = CrcMath.nat (l.take i) ++ y.toNat :: CrcMath.nat (l.drop (i + 1)) := by
  rw [List.set_eq_take_append_cons_drop, if_pos hi]
  unfold CrcMath.nat
  rw [List.map_append, List.map_cons]
theorem set_self (l : List Int) (i : Nat) (hi : i < l.length) : l.set i (rd l (i : Int)) = l := by
  have : rd l (i : Int) = l[i] := by simp [rd, List.getD_eq_getElem?_getD, List.getElem?_eq_getElem hi]
  rw [this, List.set_getElem_self]
theorem sums_part (l : List Int) (hl : okB l = true) (i : Nat) (hi : i < l.length) (m : Int) (hm : 0 ≤ m ∧ m < 256) :
    okB (turned l i m) = true ∧ CrcMath.more 0 (turned l i m) ≠ CrcMath.more 0 l := by
  have hb := okB_iff.1 hl
  have hx := hb _ (rd_mem l i hi)
  obtain ⟨t0, t1, t2⟩ := turned_byte _ m hx hm
  refine ⟨okB_iff.2 fun y hy => ?_, fun h => ?_⟩
  · rcases List.mem_or_eq_of_mem_set hy with hy | rfl
    · exact hb y hy
    · exact ⟨t0, t1⟩
  · have h := CrcMath.inv_inj h
    have e := nat_split l i hi (rd l (i : Int))
    rw [set_self l i hi] at e
    unfold turned at h
    rw [nat_split l i hi, e] at h
    refine CrcMath.run_tells (CrcMath.inv_lt (by omega)) ?_ ?_ ?_ ?_ ?_ h
    · exact CrcMath.nat_byte fun y hy => hb y (List.mem_of_mem_take hy)
    · exact CrcMath.nat_byte fun y hy => hb y (List.mem_of_mem_drop hy)
    · omega
    · omega
    · omega
theorem turned_none (s : ByteArray) (idx gen : Int) (l : List Int) (hok : okB l = true) (hF : okF idx gen l.length = true) (p : Nat) (hp : p < 128) (m : Int) (hm : 0 ≤ m ∧ m < 256) : openL (turned (imageB s idx gen l) p m) s idx = ([], 0, 40) := by
  obtain ⟨hi, hg, hl⟩ := okF_iff.1 hF
  have hh := headB_length s idx gen l hl
  have hhk := head_ok s idx gen l hok hl
  have hil := image_length s idx gen l hl
  have hik := image_okB s idx gen l hok hl
  rw [openL, if_neg]
  intro q
  have hs := open_sum _ s idx q
  have hlt : ∀ L : List Int, okB L = true → CrcMath.more 0 L < 256 ^ 4 := fun L hL => by
    have e : (256 : Nat) ^ 4 = 4294967296 := by decide
    rw [e]
    exact CrcMath.more_lt (by decide) (okB_iff.1 hL)
  by_cases h : p < 124
  · have e1 : turned (imageB s idx gen l) p m = turned (headB s idx gen l) p m ++ beL (CrcMath.more 0 (headB s idx gen l)) 4 := by
      have e0 : ∀ B : List Int, rd (headB s idx gen l ++ B) (p : Int) = rd (headB s idx gen l) (p : Int) := fun B => by
        unfold rd
        rw [Int.toNat_natCast, List.getD_eq_getElem?_getD, List.getD_eq_getElem?_getD, List.getElem?_append_left (by omega)]
      unfold turned imageB
      rw [e0, List.set_append_left _ _ (by omega)]
    have e2 : (turned (headB s idx gen l) p m).length = 124 := by unfold turned; rw [List.length_set, hh]
    rw [e1, List.take_left' e2] at hs
    have := List.append_cancel_left hs
    have sp := sums_part (headB s idx gen l) hhk p (by omega) m hm
    exact sp.2 (beL_inj (hlt _ sp.1) (hlt _ hhk) this.symm)
  · have e1 : (turned (imageB s idx gen l) p m).take 124 = headB s idx gen l := by
      unfold turned
      rw [List.take_set_of_le (by omega)]
      unfold imageB
      exact List.take_left' hh
    rw [e1] at hs
    have hx := okB_iff.1 hik _ (rd_mem (imageB s idx gen l) p (by omega))
    obtain ⟨_, _, t2⟩ := turned_byte _ m hx hm
    apply t2
    have hs2 : turned (imageB s idx gen l) p m = imageB s idx gen l := hs
    have h3 : rd (turned (imageB s idx gen l) p m) (p : Int) = Go.bits .xor .u8 (rd (imageB s idx gen l) (p : Int)) (Go.bits .or .u8 m 1) := by
      unfold turned
      generalize Go.bits .xor .u8 (rd (imageB s idx gen l) (p : Int)) (Go.bits .or .u8 m 1) = v
      unfold rd
      rw [Int.toNat_natCast, List.getD_eq_getElem?_getD, List.getElem?_set_self (by omega)]
      rfl
    rw [← h3, hs2]
theorem turned_ok (L : List Int) (hL : okB L = true) (p : Nat) (hp : p < L.length) (m : Int) (hm : 0 ≤ m ∧ m < 256) : okB (turned L p m) = true := (sums_part L hL p hp m hm).1
end Go.Proofs.YtmaoleabfmokpaaDoor.G

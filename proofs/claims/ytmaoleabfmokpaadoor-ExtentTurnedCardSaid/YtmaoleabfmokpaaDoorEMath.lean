/- Extents, plain: what was framed is opened; another number's is not; a byte that is another one makes none. -/
import Derived.Test.YtmaoleabfmokpaaDoorERefO
namespace Go.Proofs.YtmaoleabfmokpaaDoor.G
open Go.RowKit Go.Proofs.YtmaoleabfmokpaaDoorW.PrintWords
set_option linter.unusedVariables false

theorem image_form (s : ByteArray) (idx gen : Int) (l : List Int) : imageB s idx gen l = ([229] ++ beL (CrcMath.more 0 (numsOf s)) 4 ++ beL idx.toNat 4) ++ (beL gen.toNat 8 ++ ([(l.length : Int)] ++ (l ++ (List.replicate (106 - l.length) 0 ++ beL (CrcMath.more 0 (headB s idx gen l)) 4)))) := by
  simp only [imageB, headB, List.append_assoc, List.cons_append, List.nil_append]
theorem nine (s : ByteArray) (idx : Int) : ([229] ++ beL (CrcMath.more 0 (numsOf s)) 4 ++ beL idx.toNat 4).length = 9 := by
  simp only [List.length_append, beL_length, List.length_cons, List.length_nil]
theorem image_gen (s : ByteArray) (idx gen : Int) (l : List Int) : ((imageB s idx gen l).take 17).drop 9 = beL gen.toNat 8 := by
  rw [image_form, ← List.append_assoc, List.take_left' (by rw [List.length_append, nine, beL_length]), List.drop_left' (nine s idx)]
theorem image_gen' (s : ByteArray) (idx gen : Int) (l : List Int) (h : 0 ≤ gen ∧ gen ≤ 4611686018427387904) : (genO (imageB s idx gen l) : Int) = gen := by
  unfold genO
  rw [image_gen]
  have := beV_beL gen.toNat 8 0
  rw [this]
  have : gen.toNat < 256 ^ 8 := by
    have e : (256 : Nat) ^ 8 = 18446744073709551616 := by decide
    omega
  rw [Nat.mod_eq_of_lt this]
  omega
theorem image_len (s : ByteArray) (idx gen : Int) (l : List Int) : lenO (imageB s idx gen l) = l.length := by
  unfold lenO rd
  have e : ([229] ++ beL (CrcMath.more 0 (numsOf s)) 4 ++ beL idx.toNat 4 ++ beL gen.toNat 8).length = 17 := by rw [List.length_append, nine, beL_length]
  rw [image_form, ← List.append_assoc, List.getD_eq_getElem?_getD, List.getElem?_append_right (by rw [e]; decide), e]
  simp
theorem image_load (s : ByteArray) (idx gen : Int) (l : List Int) : loadO (imageB s idx gen l) = l := by
  unfold loadO
  rw [image_len]
  have e : ([229] ++ beL (CrcMath.more 0 (numsOf s)) 4 ++ beL idx.toNat 4 ++ beL gen.toNat 8 ++ [(l.length : Int)]).length = 18 := by rw [List.length_append, List.length_append, nine, beL_length]; rfl
  rw [image_form, ← List.append_assoc, ← List.append_assoc, ← List.append_assoc, List.take_left' (by rw [List.length_append, e]), List.drop_left' e]
theorem open_image (s : ByteArray) (idx gen : Int) (l : List Int) (hF : okF idx gen l.length = true) : openL (imageB s idx gen l) s idx = (l, gen, 0) := by
  obtain ⟨hi, hg, hl⟩ := okF_iff.1 hF
  have h1 := image_gen' s idx gen l hg
  have h2 := image_len s idx gen l
  have h3 := image_load s idx gen l
  have h4 := image_length s idx gen l hl
  have hn : genO (imageB s idx gen l) ≤ 4611686018427387904 := by omega
  rw [openL, if_pos, h1, h3]
  simp only [okO, okO1, okO2, okO3, h1, h2, h3, h4, Bool.and_eq_true, decide_eq_true_eq]
  exact ⟨⟨⟨⟨⟨trivial, hl⟩, hi.1⟩, hi.2⟩, hn⟩, trivial⟩
theorem beL_inj {a b i : Nat} (ha : a < 256 ^ i) (hb : b < 256 ^ i) (h : beL a i = beL b i) : a = b := by
  have h1 := beV_beL a i 0
  have h2 := beV_beL b i 0
  rw [h] at h1
  rw [h1] at h2
  rw [Nat.mod_eq_of_lt ha, Nat.mod_eq_of_lt hb] at h2
  omega
/-- by another number it is none -/
theorem open_other (s : ByteArray) (idx idx' gen : Int) (l : List Int) (hF : okF idx gen l.length = true) (h' : 0 ≤ idx' ∧ idx' ≤ 2147483647) (hne : idx ≠ idx') : openL (imageB s idx gen l) s idx' = ([], 0, 40) := by
  obtain ⟨hi, hg, hl⟩ := okF_iff.1 hF
  rw [openL, if_neg]
  intro q
  simp only [okO, Bool.and_eq_true] at q
  have q3 := of_decide_eq_true q.2
  have e : ∀ i g m, ((imageB s i g m).take 9).drop 5 = beL i.toNat 4 := fun i g m => by
    rw [image_form, List.take_left' (nine s i), List.drop_left' (by rw [List.length_append, beL_length]; rfl)]
  have := e idx gen l
  rw [← q3, e] at this
  have := beL_inj (by have e : (256 : Nat) ^ 4 = 4294967296 := by decide
                      omega) (by have e : (256 : Nat) ^ 4 = 4294967296 := by decide
                                 omega) this
  omega
/-- an extent's sum is that of what stands ahead of it -/
theorem open_sum (b : List Int) (s : ByteArray) (idx : Int) (h : okO b s idx = true) : b = b.take 124 ++ beL (CrcMath.more 0 (b.take 124)) 4 := by
  simp only [okO, okO1, Bool.and_eq_true] at h
  have q3 := of_decide_eq_true h.2
  have hl : (loadO b).length ≤ 106 := by
    have h17 := of_decide_eq_true h.1.1.1.1.2
    have hb := of_decide_eq_true h.1.1.1.1.1
    rw [loadO, List.length_drop, List.length_take]
    omega
  have e : b.take 124 = headB s idx (genO b) (loadO b) := by
    rw [← q3, imageB]
    have := headB_length s idx (genO b) (loadO b) hl
    rw [show headB s idx ↑(genO (headB s idx ↑(genO b) (loadO b) ++ beL (CrcMath.more 0 (headB s idx ↑(genO b) (loadO b))) 4)) (loadO (headB s idx ↑(genO b) (loadO b) ++ beL (CrcMath.more 0 (headB s idx ↑(genO b) (loadO b))) 4)) = headB s idx (genO b) (loadO b) from by rw [show (headB s idx ↑(genO b) (loadO b) ++ beL (CrcMath.more 0 (headB s idx ↑(genO b) (loadO b))) 4) = b from q3]]
    exact List.take_left' this
  rw [e]
  exact q3.symm
end Go.Proofs.YtmaoleabfmokpaaDoor.G

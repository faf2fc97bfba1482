/- Lemmas and contracts that the law ChunkJoins leans on (packed by a program of this session out of its texts and the print's words). -/
import Derived.Test.YtbgmnmjokdfmlaaDoorZJ4
import Derived.Test.YtbgmnmjokdfmlaaDoorZJ3
import Derived.Test.YtbgmnmjokdfmlaaDoorZJ2
import Derived.Deep.RegionHeld3
import Derived.RangeFuncFrom
import Derived.Deep.LoopGhost
import Derived.WalkSpells
import Derived.BigRegion
namespace Go.Proofs.YtbgmnmjokdfmlaaDoor.PA
open Go.RowKit Go.Proofs.YtbgmnmjokdfmlaaDoor.G Go.Proofs.YtbgmnmjokdfmlaaDoorW.PrintWords Go.Proofs.YtbgmnmjokdfmlaaDoorW.PrintLast Go.Proofs.YtbgmnmjokdfmlaaDoorW.PrintMore
set_option linter.unusedVariables false
set_option linter.unusedSimpArgs false
theorem out_put.at_ (B g : Nat) (L : List Bool) (V C : Int) (v c : Nat) (w0 w : World) (hO : OU B w g L) (hB : Below B w0 w) (hgB : B ≤ g) (hV : V = (v : Int)) (hC : C = (c : Int)) (hv : v < 18446744073709551616) (hc : c ≤ 64) (hL : L.length ≤ 7000000) :
    Calls Tryd.prog 67 #[.pointer (some ⟨g, 0, none⟩), .int .u64 V, .int .i64 C] w fun e w' => e = .returned (.tuple #[]) ∧ OU B w' g (L ++ low v c) ∧ Below B w0 w' ∧ KeepO g w w' := by
  subst hV hC
  exact out_put.calls B g L v c w0 w hO hB hgB hv hc hL
theorem intBits_0 : intBits 0 = low 0 1 := by decide
theorem intBits_1 {v : Int} {u : Nat} (h0 : v ≠ 0) (h1 : -64 ≤ v) (h2 : v ≤ 63) (hu : IntKind.u64.wrap v = (u : Int)) : intBits v = low 2 2 ++ low u 7 := by
  have e : classN v = 1 := by unfold classN; rw [if_neg h0, if_pos ⟨h1, by omega⟩]
  unfold intBits
  rw [e, hu]
  rfl
theorem intBits_2 {v : Int} {u : Nat} (h1 : ¬ (-64 ≤ v ∧ v ≤ 63)) (h2 : -2048 ≤ v) (h3 : v ≤ 2047) (hu : IntKind.u64.wrap v = (u : Int)) : intBits v = low 6 3 ++ low u 12 := by
  have e : classN v = 2 := by unfold classN; rw [if_neg (by omega), if_neg (by omega), if_pos ⟨h2, by omega⟩]
  unfold intBits
  rw [e, hu]
  rfl
theorem intBits_3 {v : Int} {u : Nat} (h1 : ¬ (-2048 ≤ v ∧ v ≤ 2047)) (h2 : -2147483648 ≤ v) (h3 : v ≤ 2147483647) (hu : IntKind.u64.wrap v = (u : Int)) : intBits v = low 14 4 ++ low u 32 := by
  have e : classN v = 3 := by unfold classN; rw [if_neg (by omega), if_neg (by omega), if_neg (by omega), if_pos ⟨h2, by omega⟩]
  unfold intBits
  rw [e, hu]
  rfl
theorem intBits_4 {v : Int} {u : Nat} (h1 : ¬ (-2147483648 ≤ v ∧ v ≤ 2147483647)) (hu : IntKind.u64.wrap v = (u : Int)) : intBits v = low 15 4 ++ low u 64 := by
  have e : classN v = 4 := by unfold classN; rw [if_neg (by omega), if_neg (by omega), if_neg (by omega), if_neg (by omega)]
  unfold intBits
  rw [e, hu]
  rfl
set_option maxHeartbeats 4000000 in
set_option maxRecDepth 100000 in
theorem out_putInt.calls (B g : Nat) (L : List Bool) (v : Int) (w0 w : World) (hO : OU B w g L) (hB : Below B w0 w) (hgB : B ≤ g) (hL : L.length ≤ 6000000) :
    Calls Tryd.prog 68 #[.pointer (some ⟨g, 0, none⟩), .int .i64 v] w fun e w' => e = .returned (.tuple #[]) ∧ OU B w' g (L ++ intBits v) ∧ Below B w0 w' ∧ KeepO g w w' := by
  have HO := Aside0.mk hO
  have HB := Aside0.mk hB
  have HGB := Aside0.mk hgB
  have HL := Aside0.mk hL
  obtain ⟨u, hu, hu64⟩ := u64_of_int v
  have HU := Aside0.mk hu
  clear hO hB hgB hL
  by_cases h0 : v = 0
  · have d0 : (v == 0) = true := beq_iff_eq.2 h0
    have HE : Aside0 (intBits v = low 0 1) := ⟨by rw [h0]; exact intBits_0⟩
    clear h0 hu
    go_enter Tryd.func68, Tryd.ntmps68
    go_wp2_with (go_at_call 67; (with_reducible refine (out_put.at_ B g L 0 1 0 1 w0 _ HO.out HB.out HGB.out rfl rfl (by decide) (by decide) (by have := HL.out; omega)).mono ?_); rintro e w1 ⟨rfl, ho, hb, hk⟩; have HO1 := Aside0.mk ho; have HB1 := Aside0.mk hb; have HK1 := Aside0.mk hk; clear ho hb hk)
    refine bodyPost_end (results_none rfl _ _ _) rfl ?_
    exact ⟨rfl, by rw [HE.out]; exact HO1.out, HB1.out, HK1.out⟩
  have d0 : (v == 0) = false := beq_eq_false_iff_ne.2 h0
  by_cases h1 : -64 ≤ v ∧ v ≤ 63
  · have d1 : decide (-64 ≤ v) = true := decide_eq_true h1.1
    have d2 : decide (v ≤ 63) = true := decide_eq_true h1.2
    have HE := Aside0.mk (intBits_1 h0 h1.1 h1.2 hu)
    clear h0 hu h1
    go_enter Tryd.func68, Tryd.ntmps68
    go_wp2_with (first
      | (go_at_call 67; (with_reducible refine (out_put.at_ B g L 2 2 2 2 w0 _ HO.out HB.out HGB.out rfl rfl (by decide) (by decide) (by have := HL.out; omega)).mono ?_); rintro e w1 ⟨rfl, ho, hb, hk⟩; have HO1 := Aside0.mk ho; have HB1 := Aside0.mk hb; have HK1 := Aside0.mk hk; clear ho hb hk)
      | (go_at_call 67; (with_reducible refine (out_put.at_ B g (L ++ low 2 2) _ 7 u 7 w0 _ HO1.out HB1.out HGB.out HU.out rfl hu64 (by decide) (by have := HL.out; simp; omega)).mono ?_); rintro e w2 ⟨rfl, ho, hb, hk⟩; have HO2 := Aside0.mk ho; have HB2 := Aside0.mk hb; have HK2 := Aside0.mk (HK1.out.trans hk); clear ho hb hk))
    refine bodyPost_end (results_none rfl _ _ _) rfl ?_
    exact ⟨rfl, by rw [HE.out, ← List.append_assoc]; exact HO2.out, HB2.out, HK2.out⟩
  clear d0
  have d0 : (v == 0) = false := beq_eq_false_iff_ne.2 h0
  by_cases h2 : -2048 ≤ v ∧ v ≤ 2047
  · have e2 : decide (-2048 ≤ v) = true := decide_eq_true h2.1
    have e3 : decide (v ≤ 2047) = true := decide_eq_true h2.2
    have HE := Aside0.mk (intBits_2 h1 h2.1 h2.2 hu)
    clear h0 hu h2
    by_cases hneg : v < 0
    · have f64a : decide (-64 ≤ v) = false := decide_eq_false (by omega)
      clear h1
      clear hneg
      go_enter Tryd.func68, Tryd.ntmps68
      go_wp2_with (first
        | (go_at_call 67; (with_reducible refine (out_put.at_ B g L 6 3 6 3 w0 _ HO.out HB.out HGB.out rfl rfl (by decide) (by decide) (by have := HL.out; omega)).mono ?_); rintro e w1 ⟨rfl, ho, hb, hk⟩; have HO1 := Aside0.mk ho; have HB1 := Aside0.mk hb; have HK1 := Aside0.mk hk; clear ho hb hk)
        | (go_at_call 67; (with_reducible refine (out_put.at_ B g (L ++ low 6 3) _ 12 u 12 w0 _ HO1.out HB1.out HGB.out HU.out rfl hu64 (by decide) (by have := HL.out; simp; omega)).mono ?_); rintro e w2 ⟨rfl, ho, hb, hk⟩; have HO2 := Aside0.mk ho; have HB2 := Aside0.mk hb; have HK2 := Aside0.mk (HK1.out.trans hk); clear ho hb hk))
      refine bodyPost_end (results_none rfl _ _ _) rfl ?_
      exact ⟨rfl, by rw [HE.out, ← List.append_assoc]; exact HO2.out, HB2.out, HK2.out⟩
    · have f64a : decide (-64 ≤ v) = true := decide_eq_true (by omega)
      have f64b : decide (v ≤ 63) = false := decide_eq_false (by omega)
      clear h1
      clear hneg
      go_enter Tryd.func68, Tryd.ntmps68
      go_wp2_with (first
        | (go_at_call 67; (with_reducible refine (out_put.at_ B g L 6 3 6 3 w0 _ HO.out HB.out HGB.out rfl rfl (by decide) (by decide) (by have := HL.out; omega)).mono ?_); rintro e w1 ⟨rfl, ho, hb, hk⟩; have HO1 := Aside0.mk ho; have HB1 := Aside0.mk hb; have HK1 := Aside0.mk hk; clear ho hb hk)
        | (go_at_call 67; (with_reducible refine (out_put.at_ B g (L ++ low 6 3) _ 12 u 12 w0 _ HO1.out HB1.out HGB.out HU.out rfl hu64 (by decide) (by have := HL.out; simp; omega)).mono ?_); rintro e w2 ⟨rfl, ho, hb, hk⟩; have HO2 := Aside0.mk ho; have HB2 := Aside0.mk hb; have HK2 := Aside0.mk (HK1.out.trans hk); clear ho hb hk))
      refine bodyPost_end (results_none rfl _ _ _) rfl ?_
      exact ⟨rfl, by rw [HE.out, ← List.append_assoc]; exact HO2.out, HB2.out, HK2.out⟩
  clear h1
  have h1 := h2
  clear h2
  by_cases h2 : -2147483648 ≤ v ∧ v ≤ 2147483647
  · have e2 : decide (-2147483648 ≤ v) = true := decide_eq_true h2.1
    have e3 : decide (v ≤ 2147483647) = true := decide_eq_true h2.2
    have HE := Aside0.mk (intBits_3 h1 h2.1 h2.2 hu)
    clear h0 hu h2
    by_cases hneg : v < 0
    · have f64a : decide (-64 ≤ v) = false := decide_eq_false (by omega)
      have f2048a : decide (-2048 ≤ v) = false := decide_eq_false (by omega)
      clear h1
      clear hneg
      go_enter Tryd.func68, Tryd.ntmps68
      go_wp2_with (first
        | (go_at_call 67; (with_reducible refine (out_put.at_ B g L 14 4 14 4 w0 _ HO.out HB.out HGB.out rfl rfl (by decide) (by decide) (by have := HL.out; omega)).mono ?_); rintro e w1 ⟨rfl, ho, hb, hk⟩; have HO1 := Aside0.mk ho; have HB1 := Aside0.mk hb; have HK1 := Aside0.mk hk; clear ho hb hk)
        | (go_at_call 67; (with_reducible refine (out_put.at_ B g (L ++ low 14 4) _ 32 u 32 w0 _ HO1.out HB1.out HGB.out HU.out rfl hu64 (by decide) (by have := HL.out; simp; omega)).mono ?_); rintro e w2 ⟨rfl, ho, hb, hk⟩; have HO2 := Aside0.mk ho; have HB2 := Aside0.mk hb; have HK2 := Aside0.mk (HK1.out.trans hk); clear ho hb hk))
      refine bodyPost_end (results_none rfl _ _ _) rfl ?_
      exact ⟨rfl, by rw [HE.out, ← List.append_assoc]; exact HO2.out, HB2.out, HK2.out⟩
    · have f64a : decide (-64 ≤ v) = true := decide_eq_true (by omega)
      have f64b : decide (v ≤ 63) = false := decide_eq_false (by omega)
      have f2048a : decide (-2048 ≤ v) = true := decide_eq_true (by omega)
      have f2048b : decide (v ≤ 2047) = false := decide_eq_false (by omega)
      clear h1
      clear hneg
      go_enter Tryd.func68, Tryd.ntmps68
      go_wp2_with (first
        | (go_at_call 67; (with_reducible refine (out_put.at_ B g L 14 4 14 4 w0 _ HO.out HB.out HGB.out rfl rfl (by decide) (by decide) (by have := HL.out; omega)).mono ?_); rintro e w1 ⟨rfl, ho, hb, hk⟩; have HO1 := Aside0.mk ho; have HB1 := Aside0.mk hb; have HK1 := Aside0.mk hk; clear ho hb hk)
        | (go_at_call 67; (with_reducible refine (out_put.at_ B g (L ++ low 14 4) _ 32 u 32 w0 _ HO1.out HB1.out HGB.out HU.out rfl hu64 (by decide) (by have := HL.out; simp; omega)).mono ?_); rintro e w2 ⟨rfl, ho, hb, hk⟩; have HO2 := Aside0.mk ho; have HB2 := Aside0.mk hb; have HK2 := Aside0.mk (HK1.out.trans hk); clear ho hb hk))
      refine bodyPost_end (results_none rfl _ _ _) rfl ?_
      exact ⟨rfl, by rw [HE.out, ← List.append_assoc]; exact HO2.out, HB2.out, HK2.out⟩
  · clear h1
    have h1 := h2
    have HE := Aside0.mk (intBits_4 h1 hu)
    clear h0 hu h2
    by_cases hneg : v < 0
    · have f64a : decide (-64 ≤ v) = false := decide_eq_false (by omega)
      have f2048a : decide (-2048 ≤ v) = false := decide_eq_false (by omega)
      have f2147483648a : decide (-2147483648 ≤ v) = false := decide_eq_false (by omega)
      clear h1
      clear hneg
      go_enter Tryd.func68, Tryd.ntmps68
      go_wp2_with (first
        | (go_at_call 67; (with_reducible refine (out_put.at_ B g L 15 4 15 4 w0 _ HO.out HB.out HGB.out rfl rfl (by decide) (by decide) (by have := HL.out; omega)).mono ?_); rintro e w1 ⟨rfl, ho, hb, hk⟩; have HO1 := Aside0.mk ho; have HB1 := Aside0.mk hb; have HK1 := Aside0.mk hk; clear ho hb hk)
        | (go_at_call 67; (with_reducible refine (out_put.at_ B g (L ++ low 15 4) _ 64 u 64 w0 _ HO1.out HB1.out HGB.out HU.out rfl hu64 (by decide) (by have := HL.out; simp; omega)).mono ?_); rintro e w2 ⟨rfl, ho, hb, hk⟩; have HO2 := Aside0.mk ho; have HB2 := Aside0.mk hb; have HK2 := Aside0.mk (HK1.out.trans hk); clear ho hb hk))
      refine bodyPost_end (results_none rfl _ _ _) rfl ?_
      exact ⟨rfl, by rw [HE.out, ← List.append_assoc]; exact HO2.out, HB2.out, HK2.out⟩
    · have f64a : decide (-64 ≤ v) = true := decide_eq_true (by omega)
      have f64b : decide (v ≤ 63) = false := decide_eq_false (by omega)
      have f2048a : decide (-2048 ≤ v) = true := decide_eq_true (by omega)
      have f2048b : decide (v ≤ 2047) = false := decide_eq_false (by omega)
      have f2147483648a : decide (-2147483648 ≤ v) = true := decide_eq_true (by omega)
      have f2147483648b : decide (v ≤ 2147483647) = false := decide_eq_false (by omega)
      clear h1
      clear hneg
      go_enter Tryd.func68, Tryd.ntmps68
      go_wp2_with (first
        | (go_at_call 67; (with_reducible refine (out_put.at_ B g L 15 4 15 4 w0 _ HO.out HB.out HGB.out rfl rfl (by decide) (by decide) (by have := HL.out; omega)).mono ?_); rintro e w1 ⟨rfl, ho, hb, hk⟩; have HO1 := Aside0.mk ho; have HB1 := Aside0.mk hb; have HK1 := Aside0.mk hk; clear ho hb hk)
        | (go_at_call 67; (with_reducible refine (out_put.at_ B g (L ++ low 15 4) _ 64 u 64 w0 _ HO1.out HB1.out HGB.out HU.out rfl hu64 (by decide) (by have := HL.out; simp; omega)).mono ?_); rintro e w2 ⟨rfl, ho, hb, hk⟩; have HO2 := Aside0.mk ho; have HB2 := Aside0.mk hb; have HK2 := Aside0.mk (HK1.out.trans hk); clear ho hb hk))
      refine bodyPost_end (results_none rfl _ _ _) rfl ?_
      exact ⟨rfl, by rw [HE.out, ← List.append_assoc]; exact HO2.out, HB2.out, HK2.out⟩
theorem not_one (v i : Nat) (hv : v < 18446744073709551616) (hi : i ≤ 64) : (Go.bits .and .u64 ((v : Int) / 2 ^ i) 1 == 0) = !v.testBit i := by
  have := and_one v i hv hi
  have h2 : v / 2 ^ i < 18446744073709551616 := Nat.lt_of_le_of_lt (Nat.div_le_self _ _) hv
  have e : (v : Int) / 2 ^ i = ((v / 2 ^ i : Nat) : Int) := by simp
  rw [e] at this ⊢
  rw [show (1 : Int) = ((1 : Nat) : Int) from rfl, u64_and_nat _ 1 h2 (by omega), Nat.and_one_is_mod] at this ⊢
  rw [← this]
  rcases Nat.mod_two_eq_zero_or_one (v / 2 ^ i) with h | h <;> rw [h] <;> rfl
theorem hi_bits {x : Nat} (hx : x < 18446744073709551616) (h0 : x ≠ 0) : 1 ≤ Lib.bitLen x ∧ Lib.bitLen x ≤ 64 ∧ x.testBit (Lib.bitLen x - 1) = true ∧ ∀ j, Lib.bitLen x ≤ j → x.testBit j = false := by
  have h1 := Lib.bitLen_le x 64 (by decide) hx
  have h2 := bitLen_up x hx
  have h3 : 1 ≤ Lib.bitLen x := by
    rcases Nat.eq_zero_or_pos (Lib.bitLen x) with h | h
    · rw [h] at h2
      omega
    · exact h
  refine ⟨h3, h1, ?_, fun j hj => Nat.testBit_lt_two_pow (Nat.lt_of_lt_of_le h2 (Nat.pow_le_pow_right (by decide) hj))⟩
  refine Nat.testBit_of_two_pow_le_and_two_pow_add_one_gt ?_ (by rwa [show Lib.bitLen x - 1 + 1 = Lib.bitLen x by omega])
  rcases Nat.lt_or_ge x (2 ^ (Lib.bitLen x - 1)) with h | h
  · have := Lib.bitLen_le x (Lib.bitLen x - 1) (by omega) h
    omega
  · exact h
theorem lo_bits {x : Nat} (hx : x < 18446744073709551616) (h0 : x ≠ 0) : x.testBit (loZ x) = true ∧ ∀ j, j < loZ x → x.testBit j = false := by
  have hc : loZ x = Lib.ctzFrom 64 x := by unfold loZ Lib.ctz; rw [if_neg h0]
  obtain ⟨m, hm, _⟩ := Lib.ctzFrom_spec 64 x (by omega) hx
  rw [← hc] at hm
  constructor
  · rw [show x.testBit (loZ x) = (2 ^ loZ x * (2 * m + 1)).testBit (loZ x) from congrArg (fun z => z.testBit (loZ x)) hm, Nat.testBit_two_pow_mul]
    simp
  · intro j hj
    rw [show x.testBit j = (2 ^ loZ x * (2 * m + 1)).testBit j from congrArg (fun z => z.testBit j) hm, Nat.testBit_two_pow_mul]
    simp
    omega
theorem low12 {H D : Nat} (hH : H < 64) (hD : D < 64) : low (H * 64 + D) 12 = low H 6 ++ low D 6 := by
  rw [low_split _ 12 6 (by decide), show (H * 64 + D) / 2 ^ (12 - 6) % 2 ^ 6 = H by rw [show 2 ^ (12 - 6) = 64 from rfl, Nat.mul_comm H 64, Nat.mul_add_div (by decide), Nat.div_eq_of_lt hD, Nat.add_zero, Nat.mod_eq_of_lt hH], ← low_mod (H * 64 + D) 6, ← low_mod D 6]
  congr 2
  omega
theorem u64n {n : Nat} (h : n < 18446744073709551616) : IntKind.u64.wrap (n : Int) = (n : Int) := u64wrap h
set_option maxHeartbeats 4000000 in
set_option maxRecDepth 100000 in
theorem out_putXor.calls (B g : Nat) (L : List Bool) (x : Nat) (w0 w : World) (hO : OU B w g L) (hB : Below B w0 w) (hgB : B ≤ g) (hx : x < 18446744073709551616) (hL : L.length ≤ 6000000) :
    Calls Tryd.prog 69 #[.pointer (some ⟨g, 0, none⟩), .int .u64 (x : Int)] w fun e w' => e = .returned (.tuple #[]) ∧ OU B w' g (L ++ xorBits x) ∧ Below B w0 w' ∧ KeepO g w w' := by
  have HO := Aside0.mk hO
  have HB := Aside0.mk hB
  have HGB := Aside0.mk hgB
  have HL := Aside0.mk hL
  clear hO hB hgB hL
  by_cases h0 : x = 0
  · have hb : ((x : Int) == 0) = true := beq_iff_eq.2 (by omega)
    have HX : Aside0 (xorBits x = low 0 1) := ⟨by rw [xorBits, if_pos h0]⟩
    clear h0
    go_enter Tryd.func69, Tryd.ntmps69
    go_wp2_with (go_at_call 67; (with_reducible refine (out_put.at_ B g L 0 1 0 1 w0 _ HO.out HB.out HGB.out rfl rfl (by decide) (by decide) (by have := HL.out; omega)).mono ?_); rintro e w1 ⟨rfl, ho, hb, hk⟩; have HO1 := Aside0.mk ho; have HB1 := Aside0.mk hb; have HK1 := Aside0.mk hk; clear ho hb hk)
    refine bodyPost_ret (results_none rfl _ _ _) rfl ?_
    exact ⟨rfl, by rw [HX.out]; exact HO1.out, HB1.out, HK1.out⟩
  · have hb : ((x : Int) == 0) = false := beq_eq_false_iff_ne.2 (by omega)
    obtain ⟨b1, b2, b3, b4⟩ := hi_bits hx h0
    obtain ⟨c3, c4⟩ := lo_bits hx h0
    obtain ⟨z1, z2⟩ := zs hx h0
    obtain ⟨H, hH⟩ : ∃ H, hiZ x = H := ⟨_, rfl⟩
    obtain ⟨S, hS⟩ : ∃ S, loZ x = S := ⟨_, rfl⟩
    obtain ⟨D, hD⟩ : ∃ D, wdZ x = D := ⟨_, rfl⟩
    have hs : H + S + D = 64 := by rw [← hH, ← hS, ← hD]; unfold hiZ loZ wdZ; unfold loZ at z1; omega
    have hd : 1 ≤ D := by rw [← hD]; unfold wdZ; unfold loZ at z1; omega
    have HX : Aside0 (xorBits x = low 1 1 ++ (low H 6 ++ low (D - 1) 6) ++ low (x / 2 ^ S) D) := ⟨by rw [xorBits, if_neg h0, hH, hS, hD, low12 (by omega) (by omega)]⟩
    have HHI : Aside0 (∀ h : Nat, h ≤ H → (x.testBit (63 - h) = decide (h = H))) := ⟨fun h hh => by
      unfold hiZ at hH
      by_cases e : h = H
      · rw [decide_eq_true e, show 63 - h = Lib.bitLen x - 1 by omega, b3]
      · rw [decide_eq_false e, b4 _ (by omega)]⟩
    have HLO : Aside0 (∀ h : Nat, h ≤ S → (x.testBit h = decide (h = S))) := ⟨fun h hh => by
      by_cases e : h = S
      · rw [decide_eq_true e, e, ← hS, c3]
      · rw [decide_eq_false e, c4 _ (by omega)]⟩
    have HXL := Aside0.mk hx
    clear b1 b2 b3 b4 c3 c4 z1 z2 hH hS hD h0
    go_enter Tryd.func69, Tryd.ntmps69
    go_wp2
    go_loop [4] (fun v4 => ∃ h : Nat, h ≤ H ∧ v4 = .int .i64 h) (fun v4 => 64 - (intOf v4).toNat)
    case atStart => exact ⟨0, Nat.zero_le _, rfl⟩
    case round =>
      obtain ⟨h, hh, rfl⟩ := hrel
      have hd63 : 63 - (h : Int) = ((63 - h : Nat) : Int) := by omega
      have ht := not_one x (63 - h) HXL.out (by omega)
      rw [HHI.out h hh] at ht
      by_cases hlt : h = H
      · rw [decide_eq_true hlt] at ht
        subst hlt
        go_wp2
        clear ht hd63
        go_loop [5] (fun v5 => ∃ q : Nat, q ≤ S ∧ v5 = .int .i64 q) (fun v5 => 64 - (intOf v5).toNat)
        case atStart => exact ⟨0, Nat.zero_le _, rfl⟩
        case round =>
          obtain ⟨q, hq, rfl⟩ := hrel
          have ht2 := not_one x q HXL.out (by omega)
          rw [HLO.out q hq] at ht2
          by_cases hl2 : q = S
          · rw [decide_eq_true hl2] at ht2
            subst hl2
            have hxs : (x : Int) / 2 ^ q = ((x / 2 ^ q : Nat) : Int) := by simp
            have hxq : x / 2 ^ q < 18446744073709551616 := Nat.lt_of_le_of_lt (Nat.div_le_self _ _) HXL.out
            have CA := Aside0.mk (fun W h1 h2 => out_put.at_ B g L 1 1 1 1 w0 W h1 h2 HGB.out rfl rfl (by decide) (by decide) (by have := HL.out; omega))
            have CB := Aside0.mk (fun W h1 h2 => out_put.at_ B g (L ++ low 1 1) (h : Int) 6 h 6 w0 W h1 h2 HGB.out rfl rfl (by omega) (by decide) (by have := HL.out; simp; omega))
            have CC := Aside0.mk (fun W h1 h2 => out_put.at_ B g (L ++ low 1 1 ++ low h 6) (64 - (h : Int) - (q : Int) - 1) 6 (D - 1) 6 w0 W h1 h2 HGB.out (by omega) rfl (by omega) (by decide) (by have := HL.out; simp; omega))
            have CD := Aside0.mk (fun W h1 h2 => out_put.at_ B g (L ++ low 1 1 ++ low h 6 ++ low (D - 1) 6) ((x : Int) / 2 ^ q) (64 - (h : Int) - (q : Int)) (x / 2 ^ q) D w0 W h1 h2 HGB.out hxs (by omega) hxq (by omega) (by have := HL.out; simp; omega))
            clear hxs hxq
            go_wp2_with (first
              | (go_at_call 67; (with_reducible refine (CA.out _ HO.out HB.out).mono ?_); rintro e w1 ⟨rfl, ho, hb, hk⟩; have HO1 := Aside0.mk ho; have HB1 := Aside0.mk hb; have HK1 := Aside0.mk hk; clear ho hb hk)
              | (go_at_call 67; (with_reducible refine (CB.out _ HO1.out HB1.out).mono ?_); rintro e w2 ⟨rfl, ho, hb, hk⟩; have HO2 := Aside0.mk ho; have HB2 := Aside0.mk hb; have HK2 := Aside0.mk (HK1.out.trans hk); clear ho hb hk)
              | (go_at_call 67; (with_reducible refine (CC.out _ HO2.out HB2.out).mono ?_); rintro e w3 ⟨rfl, ho, hb, hk⟩; have HO3 := Aside0.mk ho; have HB3 := Aside0.mk hb; have HK3 := Aside0.mk (HK2.out.trans hk); clear ho hb hk)
              | (go_at_call 67; (with_reducible refine (CD.out _ HO3.out HB3.out).mono ?_); rintro e w4 ⟨rfl, ho, hb, hk⟩; have HO4 := Aside0.mk ho; have HB4 := Aside0.mk hb; have HK4 := Aside0.mk (HK3.out.trans hk); clear ho hb hk))
            refine bodyPost_end (results_none rfl _ _ _) rfl ?_
            refine ⟨rfl, ?_, HB4.out, HK4.out⟩
            have := HO4.out
            rw [HX.out]
            simp only [List.append_assoc] at this ⊢
            exact this
          · rw [decide_eq_false hl2] at ht2
            go_wp2
            go_round
            case rel => exact ⟨q + 1, by omega, by go_num⟩
            case measure => simp [intOf] <;> omega
      · rw [decide_eq_false hlt] at ht
        go_wp2
        go_round
        case rel => exact ⟨h + 1, by omega, by go_num⟩
        case measure => simp [intOf] <;> omega
end Go.Proofs.YtbgmnmjokdfmlaaDoor.PA
namespace Go.Proofs.YtbgmnmjokdfmlaaDoor.PA
open Go.RowKit Go.Proofs.YtbgmnmjokdfmlaaDoor.G Go.Proofs.YtbgmnmjokdfmlaaDoorW.PrintWords Go.Proofs.YtbgmnmjokdfmlaaDoorW.PrintLast Go.Proofs.YtbgmnmjokdfmlaaDoorW.PrintMore
set_option linter.unusedVariables false
set_option linter.unusedSimpArgs false
def pkS (L : List Bool) : Nat → List Int
  | 0 => []
  | j + 1 => orAt (addZ (pkS L j) j) (j / 8) ((if L.getD j false = true then 1 else 0) * 2 ^ (8 - j % 8 - 1))
theorem pkS_ok (L : List Bool) : ∀ j, j ≤ L.length → OkX (pkS L j) j ∧ Bs (pkS L j) j = L.take j
  | 0, _ => ⟨okX_nil, rfl⟩
  | j + 1, h => by
    obtain ⟨h1, h2⟩ := pkS_ok L j (by omega)
    obtain ⟨h3, h4⟩ := put_step (T := 1) (X := if L.getD j false = true then 1 else 0) h1 (by decide) (by omega) (by split <;> decide)
    refine ⟨h3, ?_⟩
    rw [show pkS L (j + 1) = orAt (addZ (pkS L j) j) (j / 8) ((if L.getD j false = true then 1 else 0) * 2 ^ (8 - j % 8 - 1)) from rfl, h4, h2, List.take_succ_eq_append_getElem (by omega)]
    congr 1
    rw [List.getD_eq_getElem?_getD, List.getElem?_eq_getElem (by omega), Option.getD_some]
    cases L[j]'(by omega) <;> rfl
theorem pkS_all (L : List Bool) : pkS L L.length = packB L := by
  obtain ⟨h1, h2⟩ := pkS_ok L L.length (Nat.le_refl _)
  rw [List.take_length] at h2
  exact (packB_of h1 h2).symm
theorem pk_false {L : List Bool} {j : Nat} (hj : j < L.length) (hb : L.getD j false = false) : pkS L (j + 1) = addZ (pkS L j) j := by
  have h1 := (pkS_ok L j (by omega)).1
  have hz := addZ_len h1
  have hby : OkL (addZ (pkS L j) j) := by
    unfold addZ
    split
    · intro x hx
      rcases List.mem_append.1 hx with hx | hx
      · exact h1.bytes x hx
      · rw [List.mem_singleton.1 hx]
        exact ⟨by decide, by decide⟩
    · exact h1.bytes
  have ha := (hby.at (j / 8)).1
  show orAt (addZ (pkS L j) j) (j / 8) _ = _
  rw [if_neg (by rw [hb]; simp), Nat.zero_mul]
  unfold orAt
  rw [Nat.or_zero, Int.toNat_of_nonneg ha]
  rw [List.getD_eq_getElem?_getD, List.getElem?_eq_getElem (by omega), Option.getD_some]
  exact List.set_getElem_self _
theorem pk_true {L : List Bool} {j m : Nat} (hj : j < L.length) (hb : L.getD j false = true) (B : List Int) (hm : B.length = m) :
    (B ++ addZ (pkS L j) j).set (m + j / 8) (Go.bits .or .u8 ((addZ (pkS L j) j).getD (j / 8) 0) (128 / 2 ^ (j % 8))) = B ++ pkS L (j + 1) ∧ (B ++ addZ (pkS L j) j).length = m + j / 8 + 1 ∧ (B ++ addZ (pkS L j) j).getD (m + j / 8) 0 = (addZ (pkS L j) j).getD (j / 8) 0 := by
  have h1 := (pkS_ok L j (by omega)).1
  have hz := addZ_len h1
  have hby : OkL (addZ (pkS L j) j) := by
    unfold addZ
    split
    · intro x hx
      rcases List.mem_append.1 hx with hx | hx
      · exact h1.bytes x hx
      · rw [List.mem_singleton.1 hx]
        exact ⟨by decide, by decide⟩
    · exact h1.bytes
  have ha := hby.at (j / 8)
  refine ⟨?_, by rw [List.length_append, hz]; omega, ?_⟩
  · rw [List.set_append_right _ _ (by omega), show m + j / 8 - B.length = j / 8 by omega]
    congr 1
    show _ = orAt (addZ (pkS L j) j) (j / 8) _
    unfold orAt
    congr 1
    rw [if_pos hb, Nat.one_mul]
    obtain ⟨a, hA⟩ := Int.eq_ofNat_of_zero_le ha.1
    rw [hA] at ha ⊢
    rw [Int.toNat_natCast, show 8 - j % 8 - 1 = 7 - j % 8 by omega]
    have e : (128 : Int) / 2 ^ (j % 8) = ((2 ^ (7 - j % 8) : Nat) : Int) := by
      have hlt : j % 8 < 8 := Nat.mod_lt _ (by decide)
      generalize j % 8 = q at hlt
      match q, hlt with
      | 0, _ | 1, _ | 2, _ | 3, _ | 4, _ | 5, _ | 6, _ | 7, _ => rfl
    rw [e]
    exact u8_or_nat a _ (by omega) (Nat.lt_of_lt_of_le (Nat.pow_lt_pow_right (by decide) (show 7 - j % 8 < 8 by omega)) (by decide))
  · rw [List.getD_eq_getElem?_getD, List.getD_eq_getElem?_getD, List.getElem?_append_right (by omega), show m + j / 8 - B.length = j / 8 by omega]
end Go.Proofs.YtbgmnmjokdfmlaaDoor.PA
namespace Go.Proofs.YtbgmnmjokdfmlaaDoor.G
open Go.RowKit Go.Proofs.YtbgmnmjokdfmlaaDoorW.PrintWords Go.Proofs.YtbgmnmjokdfmlaaDoorW.PrintLast Go.Proofs.YtbgmnmjokdfmlaaDoorW.PrintMore
set_option linter.unusedVariables false
set_option linter.unusedSimpArgs false
attribute [local go_sem] max2_int min2_int max_two min_two
def dryrotref01_Put.f (a0 a1 : Int) : Option (List Int) := crc_Put.f a0 a1
def dryrotref01_Get.f (l : List Int) : Option (Int × Bool) := crc_Get.f l
set_option maxHeartbeats 800000 in
set_option maxRecDepth 100000 in
theorem dryrotref01_Put.calls (a0 a1 : Int) (r : List Int) (w : World) (h : dryrotref01_Put.f a0 a1 = some r) :
    Calls Tryd.prog 37 #[.int .u64 a0, .int .i64 a1] w fun e w' => ∃ v0_ : Value, e = .returned (v0_) ∧ Kd.R (Kd.int .u8) 5 w' w.heap.size (fun _ => True) v0_ r ∧ Below w.heap.size w w' := by
  unfold dryrotref01_Put.f crc_Put.f at h
  split at h
  case isFalse => cases h
  case isTrue hN =>
    obtain rfl := Option.some.inj h
    clear h
    obtain ⟨N, rfl⟩ := Int.eq_ofNat_of_zero_le hN.1
    rw [Int.toNat_natCast]
    obtain ⟨j, hj⟩ : ∃ j : Int, (if a1 < 0 then 0 else a1) = j := ⟨_, rfl⟩
    obtain ⟨m, hm8, hm, hw⟩ : ∃ m : Nat, m ≤ 8 ∧ (if 8 < j then 8 else j) = (m : Int) ∧ wid a1 = m := ⟨wid a1, wid_le _, by unfold wid; split at hj <;> split <;> omega, rfl⟩
    rw [hw]
    clear hw
    have hm0 : (m : Int) ≤ 8 := by omega
    go_enter Tryd.func37, Tryd.ntmps37
    go_wp2_with ((with_reducible refine gate_dst (N := 12) rfl ?_); refine Kd.R_make (Kd.int .u8) _ 5 rfl (N := 12) rfl 22 _ _ rfl (m : Int) rfl rfl Tryd.underlying22 (.int .u8 0) 1 infoU8 rfl (by decide) (by omega) 0 (ok := fun _ => True) (okp := fun _ => True) rfl (fun _ hk => hk) trivial (by omega) (by omega) (Below.refl _ _) (Nat.le_refl _) ?_; intro v103 w7 ho8 hb hg_ hnew_; rw [Int.toNat_natCast] at ho8; obtain ⟨g, c9, e9, hgb⟩ := made_form ho8 hnew_; rw [List.length_replicate] at e9; subst e9; have HO := Aside0.mk ho8; have HB := Aside0.mk hb; clear ho8 hb hg_ hnew_)
    clear hm hj
    go_loopw [0, 7] (fun n i wr => ∃ k : Nat, k ≤ m ∧ i = .int .i64 ((m : Int) - 1 - (k : Int)) ∧ n = .int .u64 ((N / 256 ^ k : Nat) : Int) ∧ Aside0 (Kd.R (Kd.int .u8) 5 wr w.heap.size (fun _ => True) (.slice (some ⟨g, 0, none⟩) m c9) (List.replicate (m - k) 0 ++ beL N k)) ∧ Aside0 (Below w.heap.size w wr)) (fun _ i _ => (intOf i + 1).toNat)
    case atStart => exact ⟨0, Nat.zero_le _, by simp, by simp, ⟨by simpa [beL] using HO.out⟩, HB⟩
    case round =>
      clear HO HB
      obtain ⟨k, hk, rfl, rfl, HO, HB⟩ := hrel
      have HS := fun hlt => Aside0.mk (crc_Put.step (N := N) (k := k) (m := m) hlt)
      have HD := Aside0.mk (Nat.div_div_eq_div_mul N (256 ^ k) 256)
      have HL := Aside0.mk (show N / 256 ^ k ≤ N from Nat.div_le_self _ _)
      generalize N / 256 ^ k = M at HS HD HL ⊢
      by_cases hlt : k < m
      · obtain ⟨hc, hf⟩ := Kd.R_celln 0 HO.out ((m - 1 - k : Nat) : Int) (by omega) (by omega)
        have HP := Aside0.mk (Kd.R_putg HO.out ((m - 1 - k : Nat) : Int) ((M % 256 : Nat) : Int))
        rw [Int.toNat_natCast] at hc hf HP
        have HS := HS hlt
        have hM : (0 : Int) ≤ (M : Int) := by omega
        have h0 : (0 : Int) ≤ (m : Int) - 1 - (k : Int) := by omega
        go_wp2
        go_roundw
        case rel =>
          refine ⟨k + 1, by omega, congrArg _ (by omega), congrArg _ ?_, ⟨?_⟩, ⟨?_⟩⟩
          · rw [Nat.pow_succ, ← HD.out]
            have := HL.out
            simp [IntKind.wrap, IntKind.bits, IntKind.signed]
            omega
          · rw [← HS.out]
            exact HP.out.1
          · exact below_set HB.out (by omega)
        case measure => simp [intOf]; omega
      · obtain rfl : k = m := by omega
        have h0 : ¬ ((0 : Int) ≤ (k : Int) - 1 - (k : Int)) := by omega
        go_wp2
        go_ret
        exact ⟨_, rfl, by simpa using HO.out, HB.out⟩
set_option maxHeartbeats 800000 in
set_option maxRecDepth 100000 in
theorem dryrotref01_Get.calls (A0 : Option Addr) (c0 : Nat) (l0 : List Int) (r1 : Int) (r2 : Bool) (w : World) (hr0 : Kd.C (Kd.int .u8) w A0 l0.length l0) (hc0 : l0.length ≤ c0) (h : dryrotref01_Get.f l0 = some (r1, r2)) :
    Calls Tryd.prog 103 #[.slice A0 l0.length c0] w fun e w' => e = .returned (.tuple #[.int .u64 r1, .bool r2]) ∧ Drawn0 w w' := by
  have HR := Aside0.mk hr0
  clear hr0 hc0
  unfold dryrotref01_Get.f crc_Get.f at h
  split at h
  case isFalse => cases h
  case isTrue hok =>
  by_cases hl : 1 ≤ l0.length ∧ l0.length ≤ 8
  case neg =>
    rw [if_neg hl] at h
    simp only [Option.some.injEq, Prod.mk.injEq] at h
    obtain ⟨rfl, rfl⟩ := h
    by_cases h0 : l0.length = 0
    · have e0 : decide ((l0.length : Int) < 1) = true := decide_eq_true (by omega)
      clear hl h0
      go_enter Tryd.func103, Tryd.ntmps103
      go_wp2
      go_ret2
      exact ⟨rfl, Drawn0.refl _⟩
    · have e0 : decide ((l0.length : Int) < 1) = false := decide_eq_false (by omega)
      have e1 : decide ((8 : Int) < (l0.length : Int)) = true := decide_eq_true (by omega)
      clear hl h0
      go_enter Tryd.func103, Tryd.ntmps103
      go_wp2
      go_ret2
      exact ⟨rfl, Drawn0.refl _⟩
  case pos =>
    rw [if_pos hl] at h
    simp only [Option.some.injEq, Prod.mk.injEq] at h
    obtain ⟨rfl, rfl⟩ := h
    have e0 : decide ((l0.length : Int) < 1) = false := decide_eq_false (by omega)
    have e1 : decide ((8 : Int) < (l0.length : Int)) = false := decide_eq_false (by omega)
    go_enter Tryd.func103, Tryd.ntmps103
    go_wp2
    go_loop [4, 17] (fun n i => ∃ k : Nat, k ≤ l0.length ∧ i = .int .i64 k ∧ n = .int .u64 (beV 0 (l0.take k) : Nat)) (fun _ i => l0.length - (intOf i).toNat)
    case atStart => exact ⟨0, Nat.zero_le _, rfl, rfl⟩
    case round =>
      obtain ⟨k, hk, rfl, rfl⟩ := hrel
      by_cases hlt : k < l0.length
      · obtain ⟨ad, rfl, hc⟩ := Kd.at_int HR.out (k : Int) (by omega) (by omega)
        rw [Int.toNat_natCast] at hc
        have hx := okB_iff.1 hok _ (rd_mem l0 k hlt)
        have HT := Aside0.mk (beV_take l0 k hlt)
        have hV := beV_take_lt hok k
        have HV := Aside0.mk (Nat.lt_of_lt_of_le hV (Nat.pow_le_pow_right (n := 256) (by decide) (show k ≤ 7 by omega)))
        have HX := Aside0.mk hx
        clear hV hx
        go_wp2
        go_round
        case rel =>
          refine ⟨k + 1, by omega, by go_num, congrArg _ ?_⟩
          have := HV.out
          have := HX.out
          rw [HT.out]
          simp [IntKind.wrap, IntKind.bits, IntKind.signed]
          omega
        case measure => simp [intOf]; omega
      · obtain rfl : k = l0.length := by omega
        go_wp2
        go_ret2
        exact ⟨rfl, Drawn0.refl _⟩
end Go.Proofs.YtbgmnmjokdfmlaaDoor.G
namespace Go.Proofs.YtbgmnmjokdfmlaaDoor.PA
open Go.RowKit Go.Proofs.YtbgmnmjokdfmlaaDoorW.PrintWords Go.Proofs.YtbgmnmjokdfmlaaDoorW.PrintLast Go.Proofs.YtbgmnmjokdfmlaaDoorW.PrintMore
attribute [local go_sem] max2_int min2_int max_two min_two max_three min_three max_four min_four   -- for this text's walks alone
set_option linter.unusedVariables false
set_option linter.unusedSimpArgs false
def dryrotref11_Can.l0 : Nat → List (S54) → Int → Int → Option (Bool)
  | 0, _, _, _ => none
  | k + 1, x0, x5, x6 => if x6 < x5 then (if x6 > 0 then (if 0 ≤ (wrap64 (x6 - 1)) then (if (wrap64 (x6 - 1)) < (x0.length : Int) then (if 0 ≤ x6 then (if x6 < (x0.length : Int) then (if ((rd_T54 x0 (wrap64 (x6 - 1))).f0) ≥ ((rd_T54 x0 x6).f0) then (some false) else (dryrotref11_Can.l0 k x0 x5 (wrap64 (x6 + 1)))) else (none)) else (none)) else (none)) else (none)) else (dryrotref11_Can.l0 k x0 x5 (wrap64 (x6 + 1)))) else (some (decide ((x0.length : Int) ≤ 65535)))
def dryrotref11_Can.f (k : Nat) (l0 : List (S54)) : Option (Bool) := dryrotref11_Can.l0 k l0 (l0.length : Int) 0
theorem dryrotref11_Can.mono_l : ∀ k, (∀ y0 y1 y2, LeO (dryrotref11_Can.l0 k y0 y1 y2) (dryrotref11_Can.l0 (k + 1) y0 y1 y2))
  | 0 => fun _ _ _ r h => by simp [dryrotref11_Can.l0] at h
  | k + 1 => by
    have ih0 := dryrotref11_Can.mono_l k
    · intro y0 y1 y2
      unfold dryrotref11_Can.l0
      repeat' first
      | (with_reducible exact ih0 _ _ _)
      | (with_reducible exact LeO.refl _)
      | (with_reducible exact LeO.none _)
      | (with_reducible refine LeO.ite ?_ ?_)
      | (with_reducible refine LeO.bind ?_ (fun _ => ?_))
      | exact ih0 _ _ _
      | exact LeO.none _
      | refine LeO.ite ?_ ?_
      | refine LeO.bind ?_ (fun _ => ?_)
theorem dryrotref11_Can.mono : ∀ a0 k, LeO (dryrotref11_Can.f k a0) (dryrotref11_Can.f (k + 1) a0) := by
  intro a0 k
  have ih0 := dryrotref11_Can.mono_l k
  unfold dryrotref11_Can.f
  repeat' first
      | (with_reducible exact ih0 _ _ _)
      | (with_reducible exact LeO.refl _)
      | (with_reducible exact LeO.none _)
      | (with_reducible refine LeO.ite ?_ ?_)
      | (with_reducible refine LeO.bind ?_ (fun _ => ?_))
      | exact ih0 _ _ _
      | exact LeO.none _
      | refine LeO.ite ?_ ?_
      | refine LeO.bind ?_ (fun _ => ?_)
set_option maxHeartbeats 8000000 in
set_option maxRecDepth 100000 in
theorem dryrotref11_Can.calls (k : Nat) (A0 : Option Addr) (c0 : Nat) (l0 : List (S54)) (r : Bool) (w : World) (hr0 : Kd.C k54 w A0 l0.length l0) (hc0 : l0.length ≤ c0) (h : dryrotref11_Can.f k l0 = some r) :
    Calls Tryd.prog 41 #[.slice A0 l0.length c0] w fun e w' => e = .returned (.bool r) ∧ Drawn0 w w' := by
  have HR0 := Aside0.mk hr0
  have HC0 := Aside0.mk hc0
  clear hr0 hc0
  have H : (dryrotref11_Can.l0 k l0 (l0.length : Int) 0) = some r := h
  clear h
  have H' := Aside0.mk H
  clear H
  go_enter Tryd.func41, Tryd.ntmps41
  go_wp2
  repeat (go_quiet (fail); try go_wp2)
  go_loopg [6] k (fun kq v6 w' => ∃ (x6_1 : Int), v6 = .int .i64 x6_1 ∧ Aside0 (dryrotref11_Can.l0 kq l0 (l0.length : Int) x6_1 = some r) ∧ Aside0 (kq ≤ k) ∧ Drawn0 w w')
  case atStart => exact ⟨(0), (by first | rfl | (simp; done) | (simp [*]; done)), H', ⟨Nat.le_refl _⟩, by repeat (first | exact Drawn0.refl _ | apply Drawn0.step)⟩
  case round =>
    clear H'
    obtain ⟨x6_1, rfl, HA, HK1, ⟨m1, rfl⟩⟩ := hrel
    cases gk with
    | zero => exact absurd HA.out (by simp [dryrotref11_Can.l0])
    | succ k1 =>
      have H := HA.out
      clear HA
      simp only [dryrotref11_Can.l0] at H
      by_cases c2 : x6_1 < (l0.length : Int)
      · rw [if_pos c2] at H
        have c2b0 : decide (x6_1 < (l0.length : Int)) = true := decide_eq_true c2
        clear c2
        by_cases c3 : x6_1 > 0
        · rw [if_pos c3] at H
          have c3b0 : decide (0 < x6_1) = true := decide_eq_true c3
          clear c3
          obtain ⟨ji4, hji4⟩ : ∃ j_ : Int, (wrap64 (x6_1 - 1)) = j_ := ⟨_, rfl⟩
          replace H : (if 0 ≤ (ji4) then (if (ji4) < (l0.length : Int) then (if 0 ≤ x6_1 then (if x6_1 < (l0.length : Int) then (if ((rd_T54 l0 (ji4)).f0) ≥ ((rd_T54 l0 x6_1).f0) then (some false) else (dryrotref11_Can.l0 k1 l0 (l0.length : Int) (wrap64 (x6_1 + 1)))) else (none)) else (none)) else (none)) else (none)) = some r := by first | (rw [hji4] at H; exact H) | (simp only [hji4] at H ⊢; exact H)
          have hji4w : (IntKind.i64.wrap (x6_1 - 1)) = ji4 := (i64_w _).trans hji4
          by_cases c5 : 0 ≤ (ji4)
          · rw [if_pos c5] at H
            have c5b0 : decide (0 ≤ (ji4)) = true := decide_eq_true c5
            clear c5
            by_cases c6 : (ji4) < (l0.length : Int)
            · rw [if_pos c6] at H
              have c6b0 : decide ((ji4) < (l0.length : Int)) = true := decide_eq_true c6
              clear c6
              by_cases c7 : 0 ≤ x6_1
              · rw [if_pos c7] at H
                have c7b0 : decide (0 ≤ x6_1) = true := decide_eq_true c7
                clear c7
                by_cases c8 : x6_1 < (l0.length : Int)
                · rw [if_pos c8] at H
                  have c8b0 : decide (x6_1 < (l0.length : Int)) = true := decide_eq_true c8
                  clear c8
                  by_cases c9 : ((rd_T54 l0 (ji4)).f0) ≥ ((rd_T54 l0 x6_1).f0)
                  · rw [if_pos c9] at H
                    have c9b0 : decide (((rd_T54 l0 x6_1).f0) ≤ ((rd_T54 l0 (ji4)).f0)) = true := decide_eq_true c9
                    clear c9
                    obtain rfl := Option.some.inj H
                    have p197 : 0 ≤ ((ji4) : Int) := of_decide_eq_true (by first | (with_reducible assumption) | assumption)
                    have q197 : (ji4) < (l0.length : Int) := of_decide_eq_true (by first | (with_reducible assumption) | assumption)
                    obtain ⟨ad197, e197, hx197_0, hx197_1⟩ := at_T54 HR0.out (ji4) p197 q197
                    cases e197
                    replace p197 := eq_true p197
                    replace q197 := eq_true q197
                    have p198 : 0 ≤ (x6_1 : Int) := of_decide_eq_true (by first | (with_reducible assumption) | assumption)
                    have q198 : x6_1 < (l0.length : Int) := of_decide_eq_true (by first | (with_reducible assumption) | assumption)
                    obtain ⟨ad198, e198, hx198_0, hx198_1⟩ := at_T54 HR0.out x6_1 p198 q198
                    obtain rfl : ad197 = ad198 := (by injection e198)
                    replace p198 := eq_true p198
                    replace q198 := eq_true q198
                    go_wp2
                    repeat (go_quiet (fail); try go_wp2)
                    go_ret
                    exact ⟨by first | rfl | (simp; done) | (simp only [← hji4] <;> (first | rfl | simp)) | (simp [*]; done), by repeat (first | exact Drawn0.refl _ | apply Drawn0.step)⟩
                  · rw [if_neg c9] at H
                    have c9b0 : decide (((rd_T54 l0 x6_1).f0) ≤ ((rd_T54 l0 (ji4)).f0)) = false := decide_eq_false c9
                    clear c9
                    have H' := Aside0.mk H
                    clear H
                    have p197 : 0 ≤ ((ji4) : Int) := of_decide_eq_true (by first | (with_reducible assumption) | assumption)
                    have q197 : (ji4) < (l0.length : Int) := of_decide_eq_true (by first | (with_reducible assumption) | assumption)
                    obtain ⟨ad197, e197, hx197_0, hx197_1⟩ := at_T54 HR0.out (ji4) p197 q197
                    cases e197
                    replace p197 := eq_true p197
                    replace q197 := eq_true q197
                    have p198 : 0 ≤ (x6_1 : Int) := of_decide_eq_true (by first | (with_reducible assumption) | assumption)
                    have q198 : x6_1 < (l0.length : Int) := of_decide_eq_true (by first | (with_reducible assumption) | assumption)
                    obtain ⟨ad198, e198, hx198_0, hx198_1⟩ := at_T54 HR0.out x6_1 p198 q198
                    obtain rfl : ad197 = ad198 := (by injection e198)
                    replace p198 := eq_true p198
                    replace q198 := eq_true q198
                    go_wp2
                    repeat (go_quiet (fail); try go_wp2)
                    go_roundg k1
                    case measure => have := HK1.out; omega
                    case rel => exact ⟨(wrap64 (x6_1 + 1)), (by first | rfl | (simp; done) | (simp [*]; done)), H', ⟨by have := HK1.out; omega⟩, by repeat (first | exact Drawn0.refl _ | apply Drawn0.step)⟩
                · rw [if_neg c8] at H
                  exact absurd H (by simp)
              · rw [if_neg c7] at H
                exact absurd H (by simp)
            · rw [if_neg c6] at H
              exact absurd H (by simp)
          · rw [if_neg c5] at H
            exact absurd H (by simp)
        · rw [if_neg c3] at H
          have c3b0 : decide (0 < x6_1) = false := decide_eq_false c3
          clear c3
          have H' := Aside0.mk H
          clear H
          go_wp2
          repeat (go_quiet (fail); try go_wp2)
          go_roundg k1
          case measure => have := HK1.out; omega
          case rel => exact ⟨(wrap64 (x6_1 + 1)), (by first | rfl | (simp; done) | (simp [*]; done)), H', ⟨by have := HK1.out; omega⟩, by repeat (first | exact Drawn0.refl _ | apply Drawn0.step)⟩
      · rw [if_neg c2] at H
        have c2b0 : decide (x6_1 < (l0.length : Int)) = false := decide_eq_false c2
        clear c2
        obtain rfl := Option.some.inj H
        go_wp2
        repeat (go_quiet (fail); try go_wp2)
        go_ret
        exact ⟨by first | rfl | (simp; done) | (simp [*]; done) | (simp; decide +kernel), by repeat (first | exact Drawn0.refl _ | apply Drawn0.step)⟩
end Go.Proofs.YtbgmnmjokdfmlaaDoor.PA
namespace Go.Proofs.YtbgmnmjokdfmlaaDoor.PA
open Go.RowKit Go.Proofs.YtbgmnmjokdfmlaaDoor.G Go.Proofs.YtbgmnmjokdfmlaaDoorW.PrintWords Go.Proofs.YtbgmnmjokdfmlaaDoorW.PrintLast Go.Proofs.YtbgmnmjokdfmlaaDoorW.PrintMore
set_option linter.unusedVariables false
set_option linter.unusedSimpArgs false
theorem rcan_from (l : List S54) (hl : l.length ≤ 1000000) : ∀ d i, i + 1 + d = l.length → ∀ k, d < k → dryrotref11_Can.l0 k l (l.length : Int) ((i + 1 : Nat) : Int) = some (((List.range d).all fun q => decide ((rd_T54 l ((i + q : Nat) : Int)).f0 < (rd_T54 l ((i + q + 1 : Nat) : Int)).f0)) && decide (l.length ≤ 65535))
  | 0, i, h, k + 1, hk => by
    unfold dryrotref11_Can.l0
    rw [if_neg (by omega)]
    simp
    omega
  | d + 1, i, h, k + 1, hk => by
    unfold dryrotref11_Can.l0
    have e1 : wrap64 (((i + 1 : Nat) : Int) - 1) = ((i : Nat) : Int) := by rw [w64 (by omega) (by omega)]; omega
    have e2 : wrap64 (((i + 1 : Nat) : Int) + 1) = ((i + 1 + 1 : Nat) : Int) := by rw [w64 (by omega) (by omega)]; omega
    rw [if_pos (by omega), if_pos (by omega), e1, if_pos (by omega), if_pos (by omega), if_pos (by omega), if_pos (by omega), e2, List.range_succ_eq_map, List.all_cons, List.all_map]
    by_cases hh : (rd_T54 l ((i : Nat) : Int)).f0 ≥ (rd_T54 l ((i + 1 : Nat) : Int)).f0
    · rw [if_pos hh]
      have h2 : ¬ (rd_T54 l ((i : Nat) : Int)).f0 < (rd_T54 l ((i + 1 : Nat) : Int)).f0 := by omega
      have e3 : decide ((rd_T54 l ((i + 0 : Nat) : Int)).f0 < (rd_T54 l ((i + 0 + 1 : Nat) : Int)).f0) = false := decide_eq_false h2
      rw [e3, Bool.false_and, Bool.false_and]
    · rw [if_neg hh, rcan_from l hl d (i + 1) (by omega) k (by omega)]
      have h2 : (rd_T54 l ((i : Nat) : Int)).f0 < (rd_T54 l ((i + 1 : Nat) : Int)).f0 := by omega
      have e3 : decide ((rd_T54 l ((i + 0 : Nat) : Int)).f0 < (rd_T54 l ((i + 0 + 1 : Nat) : Int)).f0) = true := decide_eq_true h2
      rw [e3, Bool.true_and]
      congr 3
      funext q
      simp only [Function.comp, show i + 1 + q = i + (q + 1) by omega, Nat.succ_eq_add_one]
theorem rcan_S (l : List S54) (hl : l.length ≤ 1000000) (k : Nat) (hk : l.length + 1 < k) : dryrotref11_Can.f k l = some (canS l) := by
  unfold dryrotref11_Can.f canS
  obtain ⟨k, rfl⟩ : ∃ k', k = k' + 1 := ⟨k - 1, by omega⟩
  by_cases h : 0 < l.length
  · have := rcan_from l hl (l.length - 1) 0 (by omega) k (by omega)
    simp only [Nat.zero_add] at this
    unfold dryrotref11_Can.l0
    rw [if_pos (by omega), if_neg (by omega)]
    exact (show wrap64 (0 + 1) = ((1 : Nat) : Int) from w64 (by decide) (by decide)) ▸ this
  · unfold dryrotref11_Can.l0
    rw [if_neg (by omega), show l.length - 1 = 0 by omega]
    simp
    omega
theorem OU.alloc {B g : Nat} {W : World} {L : List Bool} (h : OU B W g L) (o : Obj) : OU B (W.alloc o) g L := by
  obtain ⟨u, h1, h2⟩ := h
  exact ⟨u, blk_alloc h1 _, Kd.R_alloc h2 _⟩
theorem OU.drew {B g : Nat} {W : World} {L : List Bool} (h : OU B W g L) : OU B W.drew g L := h
theorem OU.lt {B g : Nat} {W : World} {L : List Bool} (h : OU B W g L) : g < W.heap.size := by
  obtain ⟨u, h1, _⟩ := h
  exact blk_lt h1
theorem cells54 {w W : World} {ad : Addr} {n : Nat} {l : List S54} (hr : Kd.C k54 w (some ad) n l) (hb : Below w.heap.size w W) (j : Nat) (hj : j < n) : W.cell? (ad.add (j * 2)) = some (.int .i64 (rd_T54 l (j : Int)).f0) ∧ W.cell? ⟨(ad.add (j * 2)).block, (ad.add (j * 2)).off + 1, none⟩ = some (.int .u64 (rd_T54 l (j : Int)).f1) := by
  obtain ⟨ad', e, h0, h1⟩ := at_T54 (Kd.C_below hr hb) (j : Int) (by omega) (by omega)
  obtain rfl := Option.some.inj e
  rw [Int.toNat_natCast] at h0 h1
  exact ⟨h0, h1⟩
theorem out_putXor.at_ (B g : Nat) (L : List Bool) (V : Int) (x : Nat) (w0 w : World) (hO : OU B w g L) (hB : Below B w0 w) (hgB : B ≤ g) (hV : V = (x : Int)) (hx : x < 18446744073709551616) (hL : L.length ≤ 6000000) :
    Calls Tryd.prog 69 #[.pointer (some ⟨g, 0, none⟩), .int .u64 V] w fun e w' => e = .returned (.tuple #[]) ∧ OU B w' g (L ++ xorBits x) ∧ Below B w0 w' ∧ KeepO g w w' := by
  subst hV
  exact out_putXor.calls B g L x w0 w hO hB hgB hx hL
theorem wrap64_0 (a : Int) : wrap64 (wrap64 a - 0) = wrap64 a := by
  have := wrap64_in a
  rw [Int.sub_zero]
  exact w64 this.1 this.2
set_option maxHeartbeats 2000000 in
set_option maxRecDepth 100000 in
theorem rEncode.bad (A : Option Addr) (c : Nat) (l : List S54) (w : World) (hr : Kd.C k54 w A l.length l) (hc : l.length ≤ c) (hlen : l.length ≤ 20000) (h : canS l = false) :
    Calls Tryd.prog 36 #[.slice A l.length c] w fun e w' => e = .returned (.tuple #[.slice none 0 0, .int .i64 1]) ∧ Below w.heap.size w w' := by
  have HR := Aside0.mk hr
  have HC := Aside0.mk hc
  have HF : Aside0 (dryrotref11_Can.f 100000 l = some false) := ⟨by rw [rcan_S l (by omega) _ (by omega), h]⟩
  clear hr hc hlen h
  go_enter Tryd.func36, Tryd.ntmps36
  go_wp2_with (go_at_call 41; (with_reducible refine (dryrotref11_Can.calls 100000 _ _ l false _ HR.out HC.out HF.out).mono ?_); rintro e w1 ⟨rfl, hd⟩; have HB := Aside0.mk hd.below; clear hd)
  refine bodyPost_ret (results_tmp2 rfl _ _ _) rfl ?_
  exact ⟨rfl, HB.out⟩
set_option maxHeartbeats 8000000 in
set_option maxRecDepth 100000 in
theorem rEncode.ok (A : Option Addr) (c : Nat) (l : List S54) (w : World) (hr : Kd.C k54 w A l.length l) (hc : l.length ≤ c) (hw : ∀ x ∈ l, okS x) (hlen : l.length ≤ 20000) (h : canS l = true) :
    Calls Tryd.prog 36 #[.slice A l.length c] w fun e w' => ∃ v : Value, e = .returned (.tuple #[v, .int .i64 0]) ∧ Kd.R (Kd.int .u8) 5 w' w.heap.size (fun _ => True) v (encL l) ∧ Below w.heap.size w w' := by
  have HR := Aside0.mk hr
  have HC := Aside0.mk hc
  have HW := Aside0.mk hw
  have HLN := Aside0.mk hlen
  have HF : Aside0 (dryrotref11_Can.f 100000 l = some true) := ⟨by rw [rcan_S l (by omega) _ (by omega), h]⟩
  clear hr hc hw h hlen
  go_enter Tryd.func36, Tryd.ntmps36
  go_wp2_with (first
    | (go_at_call 41; (with_reducible refine (dryrotref11_Can.calls 100000 _ _ l true _ HR.out HC.out HF.out).mono ?_); rintro e w1 ⟨rfl, hd⟩; have HB1 := Aside0.mk hd.below; clear hd)
    | ((with_reducible refine gate_dst (N := 14) rfl ?_); refine box_event ?hg (N := 14) ?hd (cs := #[.slice none 0 0]) (t := 109) ?hr ?_; (case hd => rfl); (case hg => rfl); (case hr => first | (go_simp; done) | (go_simp; rfl)); intro g hg w2 hbox hb; have HB2 := Aside0.mk (below_step HB1.out hb); have HBK := Aside0.mk hbox; have HG : Aside0 (w.heap.size ≤ g) := ⟨by have := HB1.out.size; omega⟩; clear hb hbox hg))
  have HPK : Aside0 (OU w.heap.size w2 g (encP l 0)) := ⟨_, HBK.out, Kd.R_nil _ _ _ _ _⟩
  go_loopw [17] (fun i wr => ∃ k : Nat, k ≤ l.length ∧ i = .int .i64 k ∧ Aside0 (OU w.heap.size wr g (encP l k)) ∧ Aside0 (Below w.heap.size w wr)) (fun i _ => l.length - (intOf i).toNat)
  case atStart => exact ⟨0, Nat.zero_le _, rfl, HPK, HB2⟩
  case round =>
    clear HPK HBK HB2
    obtain ⟨k, hk, rfl, HP, HB⟩ := hrel
    have hl2 : l.length ≤ 20000 := HLN.out
    by_cases hlt : k < l.length
    · have hC := Kd.C_below HR.out HB.out
      obtain ⟨ad, rfl, h0, h1⟩ := at_T54 hC (k : Int) (by omega) (by omega)
      rw [Int.toNat_natCast] at h0 h1
      have hx := HW.out _ (rd_mem54 l k hlt)
      have hgw := (HP.out).lt
      have HGN : Aside0 (wr.heap.size ≠ g) := ⟨by omega⟩
      have HLE := Aside0.mk (encP_len l HW.out k hk)
      clear hC hgw
      cases k with
      | zero =>
        obtain ⟨v0, hv0⟩ := Int.eq_ofNat_of_zero_le (u64_wrap_range (rd_T54 l 0).f0).1
        obtain ⟨v1, hv1⟩ := Int.eq_ofNat_of_zero_le hx.2.1
        have CA := Aside0.mk (fun W h1 h2 => out_put.at_ w.heap.size g [] (IntKind.u64.wrap (rd_T54 l 0).f0) 64 v0 64 w W h1 h2 HG.out hv0 rfl (by have := (u64_wrap_range (rd_T54 l 0).f0).2; omega) (by decide) (by simp))
        have CB := Aside0.mk (fun W h1 h2 => out_put.at_ w.heap.size g ([] ++ low v0 64) (rd_T54 l 0).f1 64 v1 64 w W h1 h2 HG.out hv1 rfl (by have := hx.2.2; omega) (by decide) (by simp))
        have EV : Aside0 ((IntKind.u64.wrap (rd_T54 l 0).f0).toNat = v0 ∧ (rd_T54 l 0).f1.toNat = v1) := ⟨by rw [hv0]; rfl, by have h_ : (rd_T54 l 0).f1 = (v1 : Int) := hv1; rw [h_]; rfl⟩
        clear hv0 hv1 hx
        have h0' : wr.cell? ad = some (.int .i64 (rd_T54 l 0).f0) := by simpa [Addr.add] using h0
        have h1' : wr.cell? ⟨ad.block, ad.off + 1, none⟩ = some (.int .u64 (rd_T54 l 0).f1) := by simpa [Addr.add] using h1
        clear h0 h1
        go_wp2_with (first
          | (go_at_call 67; (with_reducible refine (CA.out _ (HP.out.alloc _) (below_alloc HB.out _)).mono ?_); rintro e w3 ⟨rfl, hp, hb, hk⟩; have HP3 := Aside0.mk hp; have BX := hk wr.heap.size _ _ HGN.out (by decide) (blk_new wr _); have f1 := (blk_cell BX 1).trans rfl; have HB3 := Aside0.mk hb; clear hp hb hk BX)
          | (go_at_call 67; (with_reducible refine (CB.out _ HP3.out HB3.out).mono ?_); rintro e w4 ⟨rfl, hp, hb, hk⟩; have HP4 := Aside0.mk hp; have HB4 := Aside0.mk hb; clear hp hb hk))
        go_roundw
        case rel =>
          refine ⟨1, by omega, by go_num, ⟨?_⟩, HB4⟩
          have := HP4.out
          rw [List.nil_append, ← EV.out.1, ← EV.out.2] at this
          exact this
        case measure => simp [intOf]; omega
      | succ k =>
        have hx1 := HW.out _ (rd_mem54 l k (by omega))
        obtain ⟨x, ex⟩ : ∃ x, rd_T54 l ((k + 1 : Nat) : Int) = x := ⟨_, rfl⟩
        obtain ⟨y, ey⟩ : ∃ y, rd_T54 l ((k : Nat) : Int) = y := ⟨_, rfl⟩
        rw [ex] at h0 h1 hx
        rw [ey] at hx1
        have hxi := xor_in hx.2 hx1.2
        obtain ⟨q, eq⟩ : ∃ q, x.f1.toNat ^^^ y.f1.toNat = q := ⟨_, rfl⟩
        rw [eq] at hxi
        have CI := Aside0.mk (fun V W h1 h2 => out_putInt.calls w.heap.size g (encP l (k + 1)) V w W h1 h2 HG.out (by have := HLE.out; omega))
        have CX := Aside0.mk (fun V U W h1 h2 hU => out_putXor.at_ w.heap.size g (encP l (k + 1) ++ intBits V) U q w W h1 h2 HG.out hU hxi.2 (by have := HLE.out; have := intBits_len V; rw [List.length_append]; omega))
        have HXI := Aside0.mk hxi.1
        have HST : Aside0 (encP l (k + 2) = encP l (k + 1) ++ (intBits (wrap64 (wrap64 (x.f0 - y.f0) - stepP l (k + 1))) ++ xorBits q)) := ⟨by rw [← eq, ← ex, ← ey]; rfl⟩
        have HCY := Aside0.mk (fun W hb => ey ▸ cells54 HR.out (W := W) hb k (by omega))
        have BX := Aside0.mk (blk_new wr (.cells #[.int .i64 x.f0, .int .u64 x.f1] 54))
        have HPA := Aside0.mk (HP.out.alloc (.cells #[.int .i64 x.f0, .int .u64 x.f1] 54))
        have HBA := Aside0.mk (below_alloc HB.out (.cells #[.int .i64 x.f0, .int .u64 x.f1] 54))
        clear hx hx1 hxi eq
        cases k with
        | zero =>
          rw [show ((0 + 1 : Nat) : Int) = 1 from rfl] at *
          have y0 : (wr.alloc (.cells #[.int .i64 x.f0, .int .u64 x.f1] 54)).cell? ad = some (.int .i64 y.f0) := by simpa [Addr.add] using (HCY.out _ HBA.out).1
          have x0 : (wr.alloc (.cells #[.int .i64 x.f0, .int .u64 x.f1] 54)).cell? ⟨wr.heap.size, 0, none⟩ = some (.int .i64 x.f0) := (blk_cell BX.out 0).trans rfl
          have h0' : wr.cell? ⟨ad.block, ad.off + 2, none⟩ = some (.int .i64 x.f0) := by simpa [Addr.add] using h0
          have h1' : wr.cell? ⟨ad.block, ad.off + 2 + 1, none⟩ = some (.int .u64 x.f1) := by simpa [Addr.add] using h1
          have hxi := HXI.out
          have b3 : (0 : Int) < (l.length : Int) := by omega
          have b4 : 0 < l.length := by omega
          have hw0 : IntKind.i64.wrap 0 = 0 := by decide
          have hw1 : IntKind.i64.wrap (1 - 1) = 0 := by decide
          clear h0 h1 ex ey
          go_wp2_with fail
          go_region_held3 (fun W => W.cell? ⟨wr.heap.size, 0, none⟩ = some (.int .i64 x.f0) ∧ W.cell? ad = some (.int .i64 y.f0)) (first | exact ⟨x0, y0⟩ | exact ⟨x3, y3⟩)
            (first | (go_at_call 68; (refine (CI.out _ _ ?s1 ?s2).mono ?_); (case s1 => exact HPA.out.drew); (case s2 => exact below_drew1 HBA.out); rintro e w3 ⟨rfl, hp, hb, hk⟩; have bx3 := hk wr.heap.size _ _ HGN.out (by decide) (blk_drew BX.out); have x3 := (blk_cell bx3 0).trans rfl; have y3 : w3.cell? ad = some (.int .i64 y.f0) := (by simpa [Addr.add] using (HCY.out _ hb).1); have HP3 := Aside0.mk hp; have HB3 := Aside0.mk hb; have BX3 := Aside0.mk bx3; clear hp hb hk bx3))
          clear x0 y0
          have x1 : w3.cell? ⟨wr.heap.size, 1, none⟩ = some (.int .u64 x.f1) := (blk_cell BX3.out 1).trans rfl
          have y1 : w3.cell? ⟨ad.block, ad.off + 1, none⟩ = some (.int .u64 y.f1) := by simpa [Addr.add] using (HCY.out _ HB3.out).2
          go_wp2_with fail
          go_region_held3 (fun W => W.cell? ⟨wr.heap.size, 1, none⟩ = some (.int .u64 x.f1) ∧ W.cell? ⟨ad.block, ad.off + 1, none⟩ = some (.int .u64 y.f1)) (first | exact ⟨x1, y1⟩ | exact ⟨x4, y4⟩)
            (first | (go_at_call 69; (refine (CX.out _ _ _ HP3.out.drew ?s4 ?s5).mono ?_); (case s4 => exact below_drew1 HB3.out); (case s5 => first | exact hxi | rfl); rintro e w4 ⟨rfl, hp, hb, hk⟩; have bx4 := hk wr.heap.size _ _ HGN.out (by decide) (blk_drew BX3.out); have x4 : w4.cell? ⟨wr.heap.size, 1, none⟩ = some (.int .u64 x.f1) := (blk_cell bx4 1).trans rfl; have y4 : w4.cell? ⟨ad.block, ad.off + 1, none⟩ = some (.int .u64 y.f1) := (by simpa [Addr.add] using (HCY.out _ hb).2); have HP4 := Aside0.mk hp; have HB4 := Aside0.mk hb; clear hp hb hk bx4))
          clear x1 y1 x3 y3
          go_wp2_with fail
          go_roundw
          case rel =>
            refine ⟨0 + 2, by omega, by go_num, ⟨?_⟩, HB4⟩
            have h_ := HP4.out
            simp only [i64_w] at h_
            rw [show stepP l (0 + 1) = 0 from rfl, wrap64_0] at HST
            rw [HST.out, ← List.append_assoc]
            exact h_
          case measure => simp [intOf] <;> omega
        | succ k =>
          rw [show ((k + 1 + 1 : Nat) : Int) = (k : Int) + 2 from by omega] at *
          obtain ⟨z, ez⟩ : ∃ z, rd_T54 l ((k : Nat) : Int) = z := ⟨_, rfl⟩
          have HSP : Aside0 (stepP l (k + 1 + 1) = wrap64 (y.f0 - z.f0)) := ⟨by rw [← ey, ← ez]; rfl⟩
          have HCZ := Aside0.mk (fun W hb => ez ▸ cells54 HR.out (W := W) hb k (by omega))
          have y0 := (HCY.out _ HBA.out).1
          have z0 := (HCZ.out _ HBA.out).1
          have x0 : (wr.alloc (.cells #[.int .i64 x.f0, .int .u64 x.f1] 54)).cell? ⟨wr.heap.size, 0, none⟩ = some (.int .i64 x.f0) := (blk_cell BX.out 0).trans rfl
          have hxi := HXI.out
          have b0 : (0 : Int) ≤ (k : Int) := by omega
          have b1 : (k : Int) < (l.length : Int) := by omega
          have b2 : (0 : Int) ≤ (k : Int) + 1 := by omega
          have b3 : (k : Int) + 1 < (l.length : Int) := by omega
          have hwk : IntKind.i64.wrap (k : Int) = (k : Int) := (i64_w _).trans (w64 (by omega) (by omega))
          have hwk1 : IntKind.i64.wrap ((k : Int) + 1) = (k : Int) + 1 := (i64_w _).trans (w64 (by omega) (by omega))
          have hwk2 : IntKind.i64.wrap ((k : Int) + 2 - 1) = (k : Int) + 1 := (i64_w _).trans ((w64 (by omega) (by omega)).trans (by omega))
          have hwk3 : IntKind.i64.wrap ((k : Int) + 2 - 2) = (k : Int) := (i64_w _).trans ((w64 (by omega) (by omega)).trans (by omega))
          have hn1 : ((k : Int) + 1).toNat = k + 1 := by omega
          have d0 : ((k : Int) + 2 == 0) = false := beq_eq_false_iff_ne.2 (by omega)
          have d1 : ((k : Int) + 2 == 1) = false := beq_eq_false_iff_ne.2 (by omega)
          clear ex ey ez
          go_wp2_with fail
          go_region_held3 (fun W => W.cell? ⟨wr.heap.size, 0, none⟩ = some (.int .i64 x.f0) ∧ W.cell? (ad.add ((k + 1) * 2)) = some (.int .i64 y.f0) ∧ W.cell? (ad.add (k * 2)) = some (.int .i64 z.f0)) (first | exact ⟨x0, y0, z0⟩ | exact ⟨x3, y3, z3⟩)
            (first | (go_at_call 68; (refine (CI.out _ _ ?s6 ?s7).mono ?_); (case s6 => exact HPA.out.drew); (case s7 => exact below_drew1 HBA.out); rintro e w3 ⟨rfl, hp, hb, hk⟩; have bx3 := hk wr.heap.size _ _ HGN.out (by decide) (blk_drew BX.out); have x3 : w3.cell? ⟨wr.heap.size, 0, none⟩ = some (.int .i64 x.f0) := (blk_cell bx3 0).trans rfl; have y3 := (HCY.out _ hb).1; have z3 := (HCZ.out _ hb).1; have HP3 := Aside0.mk hp; have HB3 := Aside0.mk hb; have BX3 := Aside0.mk bx3; clear hp hb hk bx3))
          clear x0 y0 z0
          have x1 : w3.cell? ⟨wr.heap.size, 1, none⟩ = some (.int .u64 x.f1) := (blk_cell BX3.out 1).trans rfl
          have y1 := (HCY.out _ HB3.out).2
          go_wp2_with fail
          go_region_held3 (fun W => W.cell? ⟨wr.heap.size, 1, none⟩ = some (.int .u64 x.f1) ∧ W.cell? ⟨(ad.add ((k + 1) * 2)).block, (ad.add ((k + 1) * 2)).off + 1, none⟩ = some (.int .u64 y.f1)) (first | exact ⟨x1, y1⟩ | exact ⟨x4, y4⟩)
            (first | (go_at_call 69; (refine (CX.out _ _ _ HP3.out.drew ?s9 ?s10).mono ?_); (case s9 => exact below_drew1 HB3.out); (case s10 => first | exact hxi | rfl); rintro e w4 ⟨rfl, hp, hb, hk⟩; have bx4 := hk wr.heap.size _ _ HGN.out (by decide) (blk_drew BX3.out); have x4 : w4.cell? ⟨wr.heap.size, 1, none⟩ = some (.int .u64 x.f1) := (blk_cell bx4 1).trans rfl; have y4 := (HCY.out _ hb).2; have HP4 := Aside0.mk hp; have HB4 := Aside0.mk hb; clear hp hb hk bx4))
          clear x1 y1 x3 y3 z3
          go_wp2_with fail
          go_roundw
          case rel =>
            refine ⟨k + 1 + 2, by omega, by go_num, ⟨?_⟩, HB4⟩
            have h_ := HP4.out
            simp only [i64_w] at h_
            rw [← HSP.out] at h_
            rw [HST.out, ← List.append_assoc]
            exact h_
          case measure => simp [intOf] <;> omega
    · obtain rfl : k = l.length := by omega
      have hL7 := encP_len l HW.out l.length (Nat.le_refl _)
      obtain ⟨L, hL⟩ : ∃ L, encP l l.length = L := ⟨_, rfl⟩
      rw [hL] at HP hL7
      have HEN : Aside0 (encL l = beL l.length 2 ++ pkS L L.length) := ⟨by rw [encL, hL, pkS_all]⟩
      have HL7 : Aside0 (L.length ≤ 4000000) := ⟨by omega⟩
      obtain ⟨u, hu1, hu2⟩ := HP.out
      obtain ⟨A8, c8, rfl⟩ := Kd.R_slice hu2
      have HU1 := Aside0.mk hu1
      have HU2 := Aside0.mk hu2
      have HPF : Aside0 (G.dryrotref01_Put.f (l.length : Int) 2 = some (beL l.length 2)) := ⟨by have h_ := put_f (q := (l.length : Int)) (by omega) (by omega) 2; rw [u64n (by omega)] at h_; exact h_⟩
      clear hu1 hu2 hL hL7
      go_wp2_with (go_at_call 37; (with_reducible refine (G.dryrotref01_Put.calls _ _ _ _ HPF.out).mono ?_); rintro e w5 ⟨v5, rfl, hr, hb⟩; have HR5 := Aside0.mk hr; have HB5 := Aside0.mk (below_step HB.out hb); have HU5 := Aside0.mk (Kd.R_below HU2.out hb); have BK5 := Aside0.mk (blk_below HU1.out hb); have z5 : w5.cell? ⟨g, 0, none⟩ = some (.slice A8 L.length c8) := (blk_cell BK5.out 0).trans rfl; clear hr hb)
      have HS5 : Aside0 (w.heap.size ≤ wr.heap.size) := ⟨HB.out.size⟩
      clear HP HB HU1 HU2
      obtain ⟨A7, c7, rfl⟩ := Kd.R_slice HR5.out
      have HR6 : Aside0 (Kd.R (Kd.int .u8) 5 w5 w.heap.size (fun _ => True) (.slice A7 (beL l.length 2).length c7) (beL l.length 2 ++ pkS L 0)) := ⟨by
        rw [show beL l.length 2 ++ pkS L 0 = beL l.length 2 from List.append_nil _]
        exact Kd.R_lower HR5.out HS5.out⟩
      go_loopw [7, 91] (fun v7 i wx => ∃ j : Nat, j ≤ L.length ∧ i = .int .i64 j ∧ Aside0 (Kd.R (Kd.int .u8) 5 wx w.heap.size (fun _ => True) v7 (beL l.length 2 ++ pkS L j)) ∧ Aside0 (Kd.R Kd.bool 4 wx w.heap.size (fun _ => True) (.slice A8 L.length c8) L) ∧ Aside0 (Below w.heap.size w wx)) (fun _ i _ => L.length - (intOf i).toNat)
      case atStart => exact ⟨0, Nat.zero_le _, rfl, HR6, HU5, HB5⟩
      case round =>
        clear HR5 HR6 HU5 HB5 BK5 z5
        obtain ⟨j, hj, rfl, HX, HO, HB⟩ := hrel
        have hL7 : L.length ≤ 4000000 := HL7.out
        by_cases hlt : j < L.length
        · obtain ⟨ad8, rfl, z8⟩ := Kd.at_bool (Kd.R_reads' HO.out).2.2 (j : Int) (by omega) (by omega)
          rw [Int.toNat_natCast] at z8
          have hbit : rdOf false L (j : Int) = L.getD j false := by simp [rdOf]
          rw [hbit] at z8
          have hpl : (pkS L j).length = (j + 7) / 8 := by have h_ := (pkS_ok L j (by omega)).1; have := h_.le; have := h_.near; omega
          have HXL : Aside0 ((beL l.length 2 ++ pkS L j).length = 2 + (j + 7) / 8) := ⟨by rw [List.length_append, beL_length, hpl]⟩
          obtain ⟨A7, c7, e7⟩ := Kd.R_slice HX.out
          rw [HXL.out] at e7
          subst e7
          have HAZ : Aside0 (beL l.length 2 ++ addZ (pkS L j) j = if j % 8 = 0 then beL l.length 2 ++ pkS L j ++ [0] else beL l.length 2 ++ pkS L j) := ⟨by unfold addZ; split <;> simp⟩
          have HPF := Aside0.mk (fun hb => pk_false (L := L) hlt hb)
          have HPT := Aside0.mk (fun hb => pk_true (L := L) (m := 2) hlt hb (beL l.length 2) (beL_length _ _))
          have HAL : Aside0 ((beL l.length 2 ++ addZ (pkS L j) j).length = 2 + j / 8 + 1) := ⟨by rw [List.length_append, beL_length, addZ_len (pkS_ok L j (by omega)).1]; omega⟩
          have HOB : Aside0 (OkL (beL l.length 2 ++ addZ (pkS L j) j)) := ⟨fun x hx => by
            rcases List.mem_append.1 hx with hx | hx
            · exact okB_iff.1 (okB_beL _ _) x hx
            · unfold addZ at hx
              split at hx
              · rcases List.mem_append.1 hx with hx | hx
                · exact (pkS_ok L j (by omega)).1.bytes x hx
                · rw [List.mem_singleton.1 hx]
                  exact ⟨by decide, by decide⟩
              · exact (pkS_ok L j (by omega)).1.bytes x hx⟩
          clear hbit hpl
          generalize addZ (pkS L j) j = Z at *
          generalize L.getD j false = bt at *
          go_upto_if 98 with (fail)
          go_cut [7] (fun v7 wc => Aside0 (Kd.R (Kd.int .u8) 5 wc w.heap.size (fun _ => True) v7 (beL l.length 2 ++ Z)) ∧ Aside0 (Kd.R Kd.bool 4 wc w.heap.size (fun _ => True) (.slice (some ad8) L.length c8) L) ∧ Aside0 (Below w.heap.size w wc))
          case first =>
            by_cases hm : j % 8 = 0
            · have hmb : ((j : Int) % 8 == 0) = true := beq_iff_eq.2 (by omega)
              have HE := HAZ.out
              rw [if_pos hm] at HE
              have HE := Aside0.mk HE
              clear hm
              go_wp2_with ((with_reducible refine gate_builtin (b := .append) (xs := #[.tmp 99, .tmp 100]) rfl ?_); at_builtin; refine Kd.R_append (Kd.int .u8) (w0 := w) w.heap.size rfl (.tmp 99) (.tmp 100) 22 5 (.int .u8 0) 1 rfl Tryd.underlying22 infoU8 rfl (by decide) (by omega) (.slice A7 (2 + (j + 7) / 8) c7) (beL l.length 2 ++ pkS L j) 0 [.int .u8 0] (fun _ => True) (fun _ => False) rfl ?hx ?aP (fun _ hk => hk.elim) (fun _ _ => trivial) HX.out HB.out HB.out.size ?aL ?_; (case hx => first | rfl | (go_simp; done) | (show Value.slice _ 1 1 = Value.slice _ 1 1; simp; done)); (case aP => exact rfl); (case aL => have := HXL.out; omega); intro v9 w9 ho hb hg9 hat; have HX9 := Aside0.mk ho; have HB9 := Aside0.mk hb; have HO9 := Aside0.mk (Kd.R_over HO.out HX.out (by decide) hg9); clear ho hb hg9 hat)
              go_meet
              exact ⟨⟨by rw [HE.out]; exact HX9.out⟩, HO9, HB9⟩
            · have hmb : ((j : Int) % 8 == 0) = false := beq_eq_false_iff_ne.2 (by omega)
              have HE := HAZ.out
              rw [if_neg hm] at HE
              have HE := Aside0.mk HE
              clear hm
              go_wp2_with (fail)
              go_meet
              exact ⟨⟨by rw [HE.out]; exact HX.out⟩, HO, HB⟩
          case rest =>
            obtain ⟨HX2, HO2, HB2⟩ := hcut
            clear HX HO HB
            cases bt with
            | false =>
              go_wp2_with fail
              go_roundw
              case rel => exact ⟨j + 1, by omega, by go_num, ⟨by rw [HPF.out rfl]; exact HX2.out⟩, HO2, HB2⟩
              case measure => simp [intOf] <;> omega
            | true =>
              obtain ⟨s1, s2, s3⟩ := HPT.out rfl
              obtain ⟨gb, c9, e9, hgb, hgl, cl, hcl⟩ := Kd.R_form HX2.out (by rw [s2]; omega)
              subst e9
              rw [s2] at HX2
              rw [s2]
              obtain ⟨hc, hf⟩ := Kd.R_celln 0 HX2.out ((2 + j / 8 : Nat) : Int) (by omega) (by omega)
              have HP := Aside0.mk (Kd.R_putg HX2.out ((2 + j / 8 : Nat) : Int) (Go.bits .or .u8 (Z.getD (j / 8) 0) (128 / 2 ^ (j % 8))))
              rw [show rdOf (0 : Int) (beL l.length 2 ++ Z) ((2 + j / 8 : Nat) : Int) = Z.getD (j / 8) 0 from s3] at hc
              rw [Int.toNat_natCast] at hc hf HP
              rw [s1] at HP
              obtain ⟨N, hN⟩ : ∃ N, 2 + j / 8 = N := ⟨_, rfl⟩
              rw [hN] at hc hf HP HX2
              rw [hN]
              obtain ⟨q, hq⟩ : ∃ q, j % 8 = q := ⟨_, rfl⟩
              have hq8 : q < 8 := hq ▸ Nat.mod_lt _ (by decide)
              have hqi : (j : Int) % 8 = (q : Int) := by omega
              rw [hq] at HP
              have hN0 : (0 : Int) ≤ (N : Int) := by omega
              have hN1 : (N : Int) < (N : Int) + 1 := by omega
              have hNw : IntKind.i64.wrap (N : Int) = (N : Int) := (i64_w _).trans (w64 (by omega) (by omega))
              clear s1 s2 s3 hN hq
              clear HPT
              generalize Z.getD (j / 8) 0 = ov at *
              go_wp2_with fail
              go_region
              all_goals
                go_wp2_with fail
                go_roundw
                case rel => exact ⟨j + 1, by omega, by go_num, ⟨Kd.R_drew HP.out.1⟩, ⟨Kd.R_drew (Kd.R_over HO2.out HX2.out (by decide) HP.out.2)⟩, ⟨below_drew1 (HB2.out.setCell (p := ⟨gb, N, none⟩) hgb _)⟩⟩
                case measure => simp [intOf] <;> omega
        · obtain rfl : j = L.length := by omega
          obtain ⟨A7, c7, e7⟩ := Kd.R_slice HX.out
          subst e7
          go_wp2_with fail
          refine bodyPost_ret (results_tmp2 rfl _ _ _) rfl ?_
          refine ⟨_, rfl, ?_, HB.out⟩
          rw [HEN.out]
          exact HX.out
end Go.Proofs.YtbgmnmjokdfmlaaDoor.PA
namespace Go.Proofs.YtbgmnmjokdfmlaaDoor.PA
open Go.RowKit Go.Proofs.YtbgmnmjokdfmlaaDoor.G Go.Proofs.YtbgmnmjokdfmlaaDoorW.PrintWords Go.Proofs.YtbgmnmjokdfmlaaDoorW.PrintLast Go.Proofs.YtbgmnmjokdfmlaaDoorW.PrintMore
set_option linter.unusedVariables false
set_option linter.unusedSimpArgs false
def canX (x : S60) : Bool := canL x.f0 && (!decide (x.f1.length = 0) && canS x.f1)
def okC (l : List S60) (k : Nat) : Bool := canX (rd_T60 l (k : Int)) && (decide (k = 0) || decide (cmpL (rd_T60 l ((k - 1 : Nat) : Int)).f0 (rd_T60 l (k : Int)).f0 < 0))
def canC (l : List S60) : Bool := (List.range l.length).all (okC l)
theorem canC_bad {l : List S60} {k : Nat} (hk : k < l.length) (h : okC l k = false) : canC l = false := by
  rw [canC, List.all_eq_false]
  exact ⟨k, List.mem_range.2 hk, by rw [h]; simp⟩
theorem canC_ok {l : List S60} (h : ∀ j, j < l.length → okC l j = true) : canC l = true := by
  rw [canC]
  simp only [List.all_eq_true, List.mem_range]
  exact h
theorem canC_parts {l : List S60} (h : canC l = true) : ∀ j, j < l.length → okC l j = true := by
  rw [canC] at h
  simpa only [List.all_eq_true, List.mem_range] using h
theorem okC_x {l : List S60} {k : Nat} (h : canX (rd_T60 l (k : Int)) = false) : okC l k = false := by rw [okC, h]; rfl
theorem okC_zero {l : List S60} (h : canX (rd_T60 l ((0 : Nat) : Int)) = true) : okC l 0 = true := by rw [okC, h]; rfl
theorem okC_succ {l : List S60} {k : Nat} (h : canX (rd_T60 l ((k + 1 : Nat) : Int)) = true) : okC l (k + 1) = decide (cmpL (rd_T60 l (k : Int)).f0 (rd_T60 l ((k + 1 : Nat) : Int)).f0 < 0) := by
  rw [okC, h]
  simp
theorem uptoC_step {l : List S60} {k : Nat} (h : ∀ j, j < k → okC l j = true) (hk : okC l k = true) : ∀ j, j < k + 1 → okC l j = true := fun j hj => by
  rcases Nat.lt_or_ge j k with h1 | h1
  · exact h j h1
  · obtain rfl : j = k := by omega
    exact hk
theorem canX_l {x : S60} (h : canL x.f0 = false) : canX x = false := by rw [canX, h]; rfl
theorem canX_n {x : S60} (h : x.f1.length = 0) : canX x = false := by rw [canX, decide_eq_true h]; simp
theorem canX_s {x : S60} (h : canS x.f1 = false) : canX x = false := by rw [canX, h]; simp
theorem canX_ok {x : S60} (h : canL x.f0 = true) (h0 : ¬ x.f1.length = 0) (h1 : canS x.f1 = true) : canX x = true := by rw [canX, h, h1, decide_eq_false h0]; rfl
theorem rd_memZ (l : List S60) (k : Nat) (h : k < l.length) : rd_T60 l (k : Int) ∈ l := by
  have e : rd_T60 l (k : Int) = l[k] := by simp [rd_T60, List.getD_eq_getElem?_getD, List.getElem?_eq_getElem h]
  rw [e]
  exact List.getElem_mem h
def okZ (l : List S60) : Prop := ∀ x ∈ l, okLs x.f0 ∧ x.f0.length ≤ 1000000 ∧ x.f1.length ≤ 20000 ∧ ∀ s ∈ x.f1, okS s
theorem canSc.calls (A : Option Addr) (c n : Nat) (l : List S54) (b : Bool) (w : World) (hn : l.length = n) (hr : Kd.C k54 w A n l) (hc : n ≤ c) (hl : n ≤ 20000) (h : canS l = b) :
    Calls Tryd.prog 39 #[.slice A n c] w fun e w' => e = .returned (.bool b) ∧ Below w.heap.size w w' := by
  subst hn
  exact (codec_Can.calls 30000 A c l b w hr hc (by rw [can_S l (by omega) _ (by omega), h])).mono fun e w' ⟨he, hd⟩ => ⟨he, hd.below⟩
theorem rcanSc.calls (A : Option Addr) (c n : Nat) (l : List S54) (b : Bool) (w : World) (hn : l.length = n) (hr : Kd.C k54 w A n l) (hc : n ≤ c) (hl : n ≤ 20000) (h : canS l = b) :
    Calls Tryd.prog 41 #[.slice A n c] w fun e w' => e = .returned (.bool b) ∧ Below w.heap.size w w' := by
  subst hn
  exact (dryrotref11_Can.calls 30000 A c l b w hr hc (by rw [rcan_S l (by omega) _ (by omega), h])).mono fun e w' ⟨he, hd⟩ => ⟨he, hd.below⟩
theorem canL.calls_at (A : Option Addr) (c n : Nat) (l : List S65) (b : Bool) (w : World) (hn : l.length = n) (hr : Kd.C k65 w A n l) (hc : n ≤ c) (h : canL l = b) :
    Calls Tryd.prog 38 #[.slice A n c] w fun e w' => e = .returned (.bool b) ∧ Below w.heap.size w w' := h ▸ canL.calls A c n l w hn hr hc
theorem rcanL.calls_at (A : Option Addr) (c n : Nat) (l : List S65) (b : Bool) (w : World) (hn : l.length = n) (hr : Kd.C k65 w A n l) (hc : n ≤ c) (hok : okLs l) (h : canL l = b) :
    Calls Tryd.prog 28 #[.slice A n c] w fun e w' => e = .returned (.bool b) ∧ Below w.heap.size w w' := h ▸ rcanL.calls A c n l w hn hr hc hok
set_option maxHeartbeats 8000000 in
set_option maxRecDepth 100000 in
theorem canC.calls (A : Option Addr) (c n : Nat) (l : List S60) (w : World) (hn : l.length = n) (hr : Kd.C k60 w A n l) (hc : n ≤ c) (hok : okZ l) (hl : n ≤ 1000000) :
    Calls Tryd.prog 17 #[.slice A n c] w fun e w' => e = .returned (.bool (canC l)) ∧ Below w.heap.size w w' := by
  subst hn
  have HR := Aside0.mk hr
  have HK := Aside0.mk hok
  clear hr hc hok
  go_enter Tryd.func17, Tryd.ntmps17
  go_wp2
  go_loopw [7] (fun i wr => ∃ (k : Nat), k ≤ l.length ∧ i = .int .i64 k ∧ Aside0 (∀ j, j < k → okC l j = true) ∧ Aside0 (Below w.heap.size w wr)) (fun i _ => l.length - (intOf i).toNat)
  case atStart => exact ⟨0, Nat.zero_le _, rfl, ⟨fun j hj => by omega⟩, ⟨Below.refl _ _⟩⟩
  case round =>
    obtain ⟨k, hk, rfl, HO, HB⟩ := hrel
    by_cases hlt : k < l.length
    · have hC := Kd.C_below HR.out HB.out
      obtain ⟨ad, A0, c0, A1, c1, rfl, e0, e1, l0, g0, l1, g1⟩ := at_T60 hC (k : Int) (by omega) (by omega)
      rw [Int.toNat_natCast] at e0 e1
      have HBAD := Aside0.mk (fun h => canC_bad (l := l) (k := k) hlt h)
      have HS := Aside0.mk (fun h => uptoC_step (l := l) (k := k) HO.out h)
      have HSZ := Aside0.mk (HK.out _ (rd_memZ l k hlt))
      cases k with
      | zero =>
        obtain ⟨x, ex⟩ : ∃ x, rd_T60 l ((0 : Nat) : Int) = x := ⟨_, rfl⟩
        have EX := Aside0.mk ex
        rw [ex] at e0 e1 HSZ g0 l0 g1 l1
        have G0 := Aside0.mk g0
        have L0 := Aside0.mk l0
        have G1 := Aside0.mk g1
        have L1 := Aside0.mk l1
        clear hC ex g0 l0 g1 l1
        have e0z : wr.cell? ad = some (.slice A0 x.f0.length c0) := by simpa [Addr.add] using e0
        have e1z : wr.cell? ⟨ad.block, ad.off + 1, none⟩ = some (.slice A1 x.f1.length c1) := by simpa [Addr.add] using e1
        clear e0 e1
        have HBA := Aside0.mk (below_alloc HB.out (.cells #[.slice A0 x.f0.length c0, .slice A1 x.f1.length c1] 60 (0, 0)))
        have HBK := Aside0.mk (blk_new wr (.cells #[.slice A0 x.f0.length c0, .slice A1 x.f1.length c1] 60 (0, 0)))
        have HW := Aside0.mk (below_alloc (Below.refl wr.heap.size wr) (.cells #[.slice A0 x.f0.length c0, .slice A1 x.f1.length c1] 60 (0, 0)))
        have hxl : x.f1.length ≤ 20000 := HSZ.out.2.2.1
        cases h1 : canL x.f0 with
        | false =>
          have HF : Aside0 (canC l = false) := ⟨HBAD.out (okC_x (EX.out ▸ canX_l h1))⟩
          have C1 := Aside0.mk (fun W (hb : Below wr.heap.size wr W) => canL.calls_at A0 c0 _ x.f0 false W rfl (Kd.C_below G0.out hb) L0.out h1)
          clear h1
          go_wp2_with (first | (go_at_call 38; (with_reducible refine (C1.out _ HW.out).mono ?_); rintro e w1 ⟨rfl, hb⟩; have HB1 := Aside0.mk (below_step HBA.out hb); have HW1 := Aside0.mk (below_step HW.out hb); have HBK1 := Aside0.mk (blk_below HBK.out hb); have b1 := (blk_cell HBK1.out 1).trans rfl; clear hb))
          go_wp2
          go_ret
          exact ⟨by rw [HF.out]; rfl, HB1.out⟩
        | true =>
          have C1 := Aside0.mk (fun W (hb : Below wr.heap.size wr W) => canL.calls_at A0 c0 _ x.f0 true W rfl (Kd.C_below G0.out hb) L0.out h1)
          by_cases h2 : x.f1.length = 0
          · have HF : Aside0 (canC l = false) := ⟨HBAD.out (okC_x (EX.out ▸ canX_n h2))⟩
            have h2i : ((x.f1.length : Int) == 0) = true := beq_iff_eq.2 (by omega)
            clear h1 h2
            go_wp2_with (first | (go_at_call 38; (with_reducible refine (C1.out _ HW.out).mono ?_); rintro e w1 ⟨rfl, hb⟩; have HB1 := Aside0.mk (below_step HBA.out hb); have HW1 := Aside0.mk (below_step HW.out hb); have HBK1 := Aside0.mk (blk_below HBK.out hb); have b1 := (blk_cell HBK1.out 1).trans rfl; clear hb))
            go_wp2
            go_ret
            exact ⟨by rw [HF.out]; rfl, HB1.out⟩
          · have h2i : ((x.f1.length : Int) == 0) = false := beq_eq_false_iff_ne.2 (by omega)
            cases h3 : canS x.f1 with
            | false =>
              have HF : Aside0 (canC l = false) := ⟨HBAD.out (okC_x (EX.out ▸ canX_s h3))⟩
              have C2 := Aside0.mk (fun W (hb : Below wr.heap.size wr W) => canSc.calls A1 c1 _ x.f1 false W rfl (Kd.C_below G1.out hb) L1.out HSZ.out.2.2.1 h3)
              clear h1 h2 h3
              go_wp2_with (first | (go_at_call 38; (with_reducible refine (C1.out _ HW.out).mono ?_); rintro e w1 ⟨rfl, hb⟩; have HB1 := Aside0.mk (below_step HBA.out hb); have HW1 := Aside0.mk (below_step HW.out hb); have HBK1 := Aside0.mk (blk_below HBK.out hb); have b1 := (blk_cell HBK1.out 1).trans rfl; clear hb) | (go_at_call 39; (with_reducible refine (C2.out _ HW1.out).mono ?_); rintro e w2 ⟨rfl, hb⟩; have HB2 := Aside0.mk (below_step HB1.out hb); have HW2 := Aside0.mk (below_step HW1.out hb); have HBK2 := Aside0.mk (blk_below HBK1.out hb); clear hb))
              go_wp2
              go_ret
              exact ⟨by rw [HF.out]; rfl, HB2.out⟩
            | true =>
              have C2 := Aside0.mk (fun W (hb : Below wr.heap.size wr W) => canSc.calls A1 c1 _ x.f1 true W rfl (Kd.C_below G1.out hb) L1.out HSZ.out.2.2.1 h3)
              have HG := Aside0.mk (HS.out (okC_zero (EX.out ▸ canX_ok h1 h2 h3)))
              clear h1 h2 h3
              go_wp2_with (first | (go_at_call 38; (with_reducible refine (C1.out _ HW.out).mono ?_); rintro e w1 ⟨rfl, hb⟩; have HB1 := Aside0.mk (below_step HBA.out hb); have HW1 := Aside0.mk (below_step HW.out hb); have HBK1 := Aside0.mk (blk_below HBK.out hb); have b1 := (blk_cell HBK1.out 1).trans rfl; clear hb) | (go_at_call 39; (with_reducible refine (C2.out _ HW1.out).mono ?_); rintro e w2 ⟨rfl, hb⟩; have HB2 := Aside0.mk (below_step HB1.out hb); have HW2 := Aside0.mk (below_step HW1.out hb); have HBK2 := Aside0.mk (blk_below HBK1.out hb); clear hb))
              have aA := BW.cell ((blk_cell HBK2.out 0).trans rfl)
              go_wp2_with fail
              refine wp_region_bw (by kernel_rfl) (by kernel_rfl) ?_
              repeat (any_goals (first | go_big_quiet_step (fail) | quiet_step (fail)))
              all_goals (refine wpQuiet_nil ?_; intro _ hw'; obtain ⟨⟨w3, hb⟩, hw''⟩ := hw'; subst hw''; have HB3 := Aside0.mk (below_step HB2.out hb); clear hb)
              go_wp2
              go_roundw
              case rel => exact ⟨0 + 1, by omega, by go_num, HG, HB3⟩
              case measure => simp [intOf] <;> omega
      | succ k =>
        obtain ⟨ad_, B0, d0, B1, d1, ea, q0, q1, m0, n0, m1, n1⟩ := at_T60 hC ((k : Nat) : Int) (by omega) (by omega)
        obtain rfl := Option.some.inj ea
        rw [Int.toNat_natCast] at q0 q1
        have HSY := Aside0.mk (HK.out _ (rd_memZ l k (by omega)))
        obtain ⟨x, ex⟩ : ∃ x, rd_T60 l ((k + 1 : Nat) : Int) = x := ⟨_, rfl⟩
        obtain ⟨y, ey⟩ : ∃ y, rd_T60 l ((k : Nat) : Int) = y := ⟨_, rfl⟩
        have EY := Aside0.mk ey
        rw [ey] at q0 q1 n0 m0 HSY
        have N0 := Aside0.mk n0
        have M0 := Aside0.mk m0
        clear n0 m0 m1 n1 q1
        have EX := Aside0.mk ex
        rw [ex] at e0 e1 HSZ g0 l0 g1 l1
        have G0 := Aside0.mk g0
        have L0 := Aside0.mk l0
        have G1 := Aside0.mk g1
        have L1 := Aside0.mk l1
        clear hC ex g0 l0 g1 l1 ey ea
        have HBA := Aside0.mk (below_alloc HB.out (.cells #[.slice A0 x.f0.length c0, .slice A1 x.f1.length c1] 60 (0, 0)))
        have HBK := Aside0.mk (blk_new wr (.cells #[.slice A0 x.f0.length c0, .slice A1 x.f1.length c1] 60 (0, 0)))
        have HW := Aside0.mk (below_alloc (Below.refl wr.heap.size wr) (.cells #[.slice A0 x.f0.length c0, .slice A1 x.f1.length c1] 60 (0, 0)))
        have hxl : x.f1.length ≤ 20000 := HSZ.out.2.2.1
        have q0a := cell_alloc_oldR (.cells #[.slice A0 x.f0.length c0, .slice A1 x.f1.length c1] 60 (0, 0)) q0
        rw [show ((k + 1 : Nat) : Int) = (k : Int) + 1 from by omega] at *
        have gg0 : decide ((0 : Int) < (k : Int) + 1) = true := decide_eq_true (by omega)
        have hwk : IntKind.i64.wrap ((k : Int) + 1 - 1) = (k : Int) := by rw [IntKind.wrap_i64]; omega
        have gg1 : (0 : Int) ≤ (k : Int) := by omega
        have gg2 : (k : Int) < (l.length : Int) := by omega
        cases h1 : canL x.f0 with
        | false =>
          have HF : Aside0 (canC l = false) := ⟨HBAD.out (okC_x (EX.out ▸ canX_l h1))⟩
          have C1 := Aside0.mk (fun W (hb : Below wr.heap.size wr W) => canL.calls_at A0 c0 _ x.f0 false W rfl (Kd.C_below G0.out hb) L0.out h1)
          clear h1
          go_wp2_with (first | (go_at_call 38; (with_reducible refine (C1.out _ HW.out).mono ?_); rintro e w1 ⟨rfl, hb⟩; have HB1 := Aside0.mk (below_step HBA.out hb); have HW1 := Aside0.mk (below_step HW.out hb); have HBK1 := Aside0.mk (blk_below HBK.out hb); have b1 := (blk_cell HBK1.out 1).trans rfl; clear hb))
          go_wp2
          go_ret
          exact ⟨by rw [HF.out]; rfl, HB1.out⟩
        | true =>
          have C1 := Aside0.mk (fun W (hb : Below wr.heap.size wr W) => canL.calls_at A0 c0 _ x.f0 true W rfl (Kd.C_below G0.out hb) L0.out h1)
          by_cases h2 : x.f1.length = 0
          · have HF : Aside0 (canC l = false) := ⟨HBAD.out (okC_x (EX.out ▸ canX_n h2))⟩
            have h2i : ((x.f1.length : Int) == 0) = true := beq_iff_eq.2 (by omega)
            clear h1 h2
            go_wp2_with (first | (go_at_call 38; (with_reducible refine (C1.out _ HW.out).mono ?_); rintro e w1 ⟨rfl, hb⟩; have HB1 := Aside0.mk (below_step HBA.out hb); have HW1 := Aside0.mk (below_step HW.out hb); have HBK1 := Aside0.mk (blk_below HBK.out hb); have b1 := (blk_cell HBK1.out 1).trans rfl; clear hb))
            go_wp2
            go_ret
            exact ⟨by rw [HF.out]; rfl, HB1.out⟩
          · have h2i : ((x.f1.length : Int) == 0) = false := beq_eq_false_iff_ne.2 (by omega)
            cases h3 : canS x.f1 with
            | false =>
              have HF : Aside0 (canC l = false) := ⟨HBAD.out (okC_x (EX.out ▸ canX_s h3))⟩
              have C2 := Aside0.mk (fun W (hb : Below wr.heap.size wr W) => canSc.calls A1 c1 _ x.f1 false W rfl (Kd.C_below G1.out hb) L1.out HSZ.out.2.2.1 h3)
              clear h1 h2 h3
              go_wp2_with (first | (go_at_call 38; (with_reducible refine (C1.out _ HW.out).mono ?_); rintro e w1 ⟨rfl, hb⟩; have HB1 := Aside0.mk (below_step HBA.out hb); have HW1 := Aside0.mk (below_step HW.out hb); have HBK1 := Aside0.mk (blk_below HBK.out hb); have b1 := (blk_cell HBK1.out 1).trans rfl; clear hb) | (go_at_call 39; (with_reducible refine (C2.out _ HW1.out).mono ?_); rintro e w2 ⟨rfl, hb⟩; have HB2 := Aside0.mk (below_step HB1.out hb); have HW2 := Aside0.mk (below_step HW1.out hb); have HBK2 := Aside0.mk (blk_below HBK1.out hb); clear hb))
              go_wp2
              go_ret
              exact ⟨by rw [HF.out]; rfl, HB2.out⟩
            | true =>
              have C2 := Aside0.mk (fun W (hb : Below wr.heap.size wr W) => canSc.calls A1 c1 _ x.f1 true W rfl (Kd.C_below G1.out hb) L1.out HSZ.out.2.2.1 h3)
              have HQ := okC_succ (l := l) (k := k) (by rw [show ((k + 1 : Nat) : Int) = (k : Int) + 1 from by omega, EX.out]; exact canX_ok h1 h2 h3)
              rw [show ((k + 1 : Nat) : Int) = (k : Int) + 1 from by omega, EX.out, EY.out] at HQ
              have C3 := Aside0.mk (fun W (hb : Below wr.heap.size wr W) => cmpL.calls B0 A0 d0 c0 _ _ y.f0 x.f0 W rfl rfl (Kd.C_below N0.out hb) (Kd.C_below G0.out hb) HSY.out.2.1)
              clear h1 h2 h3
              by_cases hd : cmpL y.f0 x.f0 < 0
              · have HG := Aside0.mk (HS.out (by rw [HQ, decide_eq_true hd]))
                have hd1 : decide ((0 : Int) ≤ cmpL y.f0 x.f0) = false := decide_eq_false (by omega)
                clear HQ hd
                go_wp2_with (first | (go_at_call 38; (with_reducible refine (C1.out _ HW.out).mono ?_); rintro e w1 ⟨rfl, hb⟩; have HB1 := Aside0.mk (below_step HBA.out hb); have HW1 := Aside0.mk (below_step HW.out hb); have HBK1 := Aside0.mk (blk_below HBK.out hb); have b1 := (blk_cell HBK1.out 1).trans rfl; clear hb) | (go_at_call 39; (with_reducible refine (C2.out _ HW1.out).mono ?_); rintro e w2 ⟨rfl, hb⟩; have HB2 := Aside0.mk (below_step HB1.out hb); have HW2 := Aside0.mk (below_step HW1.out hb); have HBK2 := Aside0.mk (blk_below HBK1.out hb); clear hb))
                have aA := BW.cell ((blk_cell HBK2.out 0).trans rfl)
                have pA := BW.cell (pw_cell_below HW2.out q0)
                go_wp2_with fail
                refine wp_region_bw (by kernel_rfl) (by kernel_rfl) ?_
                repeat (any_goals (first | go_big_quiet_step ((go_at_call 40; refine bw_of (C3.out _ ?_); exact below_step HW2.out (BW.hb _))) | quiet_step ((go_at_call 40; refine bw_of (C3.out _ ?_); exact below_step HW2.out (BW.hb _)))))
                all_goals (refine wpQuiet_nil ?_; intro _ hw'; obtain ⟨⟨w3, hb⟩, hw''⟩ := hw'; subst hw''; have HB3 := Aside0.mk (below_step HB2.out hb); clear hb)
                go_wp2
                go_roundw
                case rel => exact ⟨k + 1 + 1, by omega, by go_num, HG, HB3⟩
                case measure => simp [intOf] <;> omega
              · have HF : Aside0 (canC l = false) := ⟨HBAD.out (by rw [HQ, decide_eq_false hd])⟩
                have hd1 : decide ((0 : Int) ≤ cmpL y.f0 x.f0) = true := decide_eq_true (by omega)
                clear HQ hd
                go_wp2_with (first | (go_at_call 38; (with_reducible refine (C1.out _ HW.out).mono ?_); rintro e w1 ⟨rfl, hb⟩; have HB1 := Aside0.mk (below_step HBA.out hb); have HW1 := Aside0.mk (below_step HW.out hb); have HBK1 := Aside0.mk (blk_below HBK.out hb); have b1 := (blk_cell HBK1.out 1).trans rfl; clear hb) | (go_at_call 39; (with_reducible refine (C2.out _ HW1.out).mono ?_); rintro e w2 ⟨rfl, hb⟩; have HB2 := Aside0.mk (below_step HB1.out hb); have HW2 := Aside0.mk (below_step HW1.out hb); have HBK2 := Aside0.mk (blk_below HBK1.out hb); clear hb))
                have aA := BW.cell ((blk_cell HBK2.out 0).trans rfl)
                have pA := BW.cell (pw_cell_below HW2.out q0)
                go_wp2_with fail
                refine wp_region_bw (by kernel_rfl) (by kernel_rfl) ?_
                repeat (any_goals (first | go_big_quiet_step ((go_at_call 40; refine bw_of (C3.out _ ?_); exact below_step HW2.out (BW.hb _))) | quiet_step ((go_at_call 40; refine bw_of (C3.out _ ?_); exact below_step HW2.out (BW.hb _)))))
                all_goals (refine wpQuiet_nil ?_; intro _ hw'; obtain ⟨⟨w3, hb⟩, hw''⟩ := hw'; subst hw''; have HB3 := Aside0.mk (below_step HB2.out hb); clear hb)
                go_wp2
                go_ret
                exact ⟨by rw [HF.out]; rfl, HB3.out⟩
    · obtain rfl : k = l.length := by omega
      have HF : Aside0 (canC l = true) := ⟨canC_ok HO.out⟩
      go_wp2
      go_ret
      exact ⟨by rw [HF.out]; rfl, HB.out⟩
set_option maxHeartbeats 8000000 in
set_option maxRecDepth 100000 in
theorem rcanC.calls (A : Option Addr) (c n : Nat) (l : List S60) (w : World) (hn : l.length = n) (hr : Kd.C k60 w A n l) (hc : n ≤ c) (hok : okZ l) (hl : n ≤ 1000000) :
    Calls Tryd.prog 18 #[.slice A n c] w fun e w' => e = .returned (.bool (canC l)) ∧ Below w.heap.size w w' := by
  subst hn
  have HR := Aside0.mk hr
  have HK := Aside0.mk hok
  clear hr hc hok
  go_enter Tryd.func18, Tryd.ntmps18
  go_wp2
  go_loopw [7] (fun i wr => ∃ (k : Nat), k ≤ l.length ∧ i = .int .i64 k ∧ Aside0 (∀ j, j < k → okC l j = true) ∧ Aside0 (Below w.heap.size w wr)) (fun i _ => l.length - (intOf i).toNat)
  case atStart => exact ⟨0, Nat.zero_le _, rfl, ⟨fun j hj => by omega⟩, ⟨Below.refl _ _⟩⟩
  case round =>
    obtain ⟨k, hk, rfl, HO, HB⟩ := hrel
    by_cases hlt : k < l.length
    · have hC := Kd.C_below HR.out HB.out
      obtain ⟨ad, A0, c0, A1, c1, rfl, e0, e1, l0, g0, l1, g1⟩ := at_T60 hC (k : Int) (by omega) (by omega)
      rw [Int.toNat_natCast] at e0 e1
      have HBAD := Aside0.mk (fun h => canC_bad (l := l) (k := k) hlt h)
      have HS := Aside0.mk (fun h => uptoC_step (l := l) (k := k) HO.out h)
      have HSZ := Aside0.mk (HK.out _ (rd_memZ l k hlt))
      cases k with
      | zero =>
        obtain ⟨x, ex⟩ : ∃ x, rd_T60 l ((0 : Nat) : Int) = x := ⟨_, rfl⟩
        have EX := Aside0.mk ex
        rw [ex] at e0 e1 HSZ g0 l0 g1 l1
        have G0 := Aside0.mk g0
        have L0 := Aside0.mk l0
        have G1 := Aside0.mk g1
        have L1 := Aside0.mk l1
        clear hC ex g0 l0 g1 l1
        have e0z : wr.cell? ad = some (.slice A0 x.f0.length c0) := by simpa [Addr.add] using e0
        have e1z : wr.cell? ⟨ad.block, ad.off + 1, none⟩ = some (.slice A1 x.f1.length c1) := by simpa [Addr.add] using e1
        clear e0 e1
        have HBA := Aside0.mk (below_alloc HB.out (.cells #[.slice A0 x.f0.length c0, .slice A1 x.f1.length c1] 60 (0, 0)))
        have HBK := Aside0.mk (blk_new wr (.cells #[.slice A0 x.f0.length c0, .slice A1 x.f1.length c1] 60 (0, 0)))
        have HW := Aside0.mk (below_alloc (Below.refl wr.heap.size wr) (.cells #[.slice A0 x.f0.length c0, .slice A1 x.f1.length c1] 60 (0, 0)))
        have hxl : x.f1.length ≤ 20000 := HSZ.out.2.2.1
        have aA := BW.cell ((blk_cell HBK.out 0).trans rfl)
        have bA := BW.cell ((blk_cell HBK.out 1).trans rfl)
        cases h1 : canL x.f0 with
        | false =>
          have HF : Aside0 (canC l = false) := ⟨HBAD.out (okC_x (EX.out ▸ canX_l h1))⟩
          have C1 := Aside0.mk (fun W (hb : Below wr.heap.size wr W) => rcanL.calls_at A0 c0 _ x.f0 false W rfl (Kd.C_below G0.out hb) L0.out HSZ.out.1 h1)
          clear h1
          go_wp2_with fail
          refine wp_region_bw (by kernel_rfl) (by kernel_rfl) ?_
          repeat (any_goals (first | go_big_quiet_step (first | (go_at_call 28; refine bw_of (C1.out _ ?_); exact below_step HW.out (BW.hb _))) | quiet_step (first | (go_at_call 28; refine bw_of (C1.out _ ?_); exact below_step HW.out (BW.hb _)))))
          all_goals (refine wpQuiet_nil ?_; intro _ hw'; obtain ⟨⟨w2, hb⟩, hw''⟩ := hw'; subst hw''; have HB2 := Aside0.mk (below_step HBA.out hb); clear hb)
          go_wp2
          go_ret
          exact ⟨by rw [HF.out]; rfl, HB2.out⟩
        | true =>
          have C1 := Aside0.mk (fun W (hb : Below wr.heap.size wr W) => rcanL.calls_at A0 c0 _ x.f0 true W rfl (Kd.C_below G0.out hb) L0.out HSZ.out.1 h1)
          by_cases h2 : x.f1.length = 0
          · have HF : Aside0 (canC l = false) := ⟨HBAD.out (okC_x (EX.out ▸ canX_n h2))⟩
            have h2i : ((x.f1.length : Int) == 0) = true := beq_iff_eq.2 (by omega)
            clear h1 h2
            go_wp2_with fail
            refine wp_region_bw (by kernel_rfl) (by kernel_rfl) ?_
            repeat (any_goals (first | go_big_quiet_step (first | (go_at_call 28; refine bw_of (C1.out _ ?_); exact below_step HW.out (BW.hb _))) | quiet_step (first | (go_at_call 28; refine bw_of (C1.out _ ?_); exact below_step HW.out (BW.hb _)))))
            all_goals (refine wpQuiet_nil ?_; intro _ hw'; obtain ⟨⟨w2, hb⟩, hw''⟩ := hw'; subst hw''; have HB2 := Aside0.mk (below_step HBA.out hb); clear hb)
            go_wp2
            go_ret
            exact ⟨by rw [HF.out]; rfl, HB2.out⟩
          · have h2i : ((x.f1.length : Int) == 0) = false := beq_eq_false_iff_ne.2 (by omega)
            cases h3 : canS x.f1 with
            | false =>
              have HF : Aside0 (canC l = false) := ⟨HBAD.out (okC_x (EX.out ▸ canX_s h3))⟩
              have C2 := Aside0.mk (fun W (hb : Below wr.heap.size wr W) => rcanSc.calls A1 c1 _ x.f1 false W rfl (Kd.C_below G1.out hb) L1.out HSZ.out.2.2.1 h3)
              clear h1 h2 h3
              go_wp2_with fail
              refine wp_region_bw (by kernel_rfl) (by kernel_rfl) ?_
              repeat (any_goals (first | go_big_quiet_step (first | (go_at_call 28; refine bw_of (C1.out _ ?_); exact below_step HW.out (BW.hb _)) | (go_at_call 41; refine bw_of (C2.out _ ?_); exact below_step HW.out (BW.hb _))) | quiet_step (first | (go_at_call 28; refine bw_of (C1.out _ ?_); exact below_step HW.out (BW.hb _)) | (go_at_call 41; refine bw_of (C2.out _ ?_); exact below_step HW.out (BW.hb _)))))
              all_goals (refine wpQuiet_nil ?_; intro _ hw'; obtain ⟨⟨w2, hb⟩, hw''⟩ := hw'; subst hw''; have HB2 := Aside0.mk (below_step HBA.out hb); clear hb)
              go_wp2
              go_ret
              exact ⟨by rw [HF.out]; rfl, HB2.out⟩
            | true =>
              have C2 := Aside0.mk (fun W (hb : Below wr.heap.size wr W) => rcanSc.calls A1 c1 _ x.f1 true W rfl (Kd.C_below G1.out hb) L1.out HSZ.out.2.2.1 h3)
              have HG := Aside0.mk (HS.out (okC_zero (EX.out ▸ canX_ok h1 h2 h3)))
              clear h1 h2 h3
              go_wp2_with fail
              refine wp_region_bw (by kernel_rfl) (by kernel_rfl) ?_
              repeat (any_goals (first | go_big_quiet_step (first | (go_at_call 28; refine bw_of (C1.out _ ?_); exact below_step HW.out (BW.hb _)) | (go_at_call 41; refine bw_of (C2.out _ ?_); exact below_step HW.out (BW.hb _))) | quiet_step (first | (go_at_call 28; refine bw_of (C1.out _ ?_); exact below_step HW.out (BW.hb _)) | (go_at_call 41; refine bw_of (C2.out _ ?_); exact below_step HW.out (BW.hb _)))))
              all_goals (refine wpQuiet_nil ?_; intro _ hw'; obtain ⟨⟨w2, hb⟩, hw''⟩ := hw'; subst hw''; have HB2 := Aside0.mk (below_step HBA.out hb); clear hb)
              go_wp2
              go_roundw
              case rel => exact ⟨0 + 1, by omega, by go_num, HG, HB2⟩
              case measure => simp [intOf] <;> omega
      | succ k =>
        obtain ⟨ad_, B0, d0, B1, d1, ea, q0, q1, m0, n0, m1, n1⟩ := at_T60 hC ((k : Nat) : Int) (by omega) (by omega)
        obtain rfl := Option.some.inj ea
        rw [Int.toNat_natCast] at q0 q1
        have HSY := Aside0.mk (HK.out _ (rd_memZ l k (by omega)))
        obtain ⟨x, ex⟩ : ∃ x, rd_T60 l ((k + 1 : Nat) : Int) = x := ⟨_, rfl⟩
        obtain ⟨y, ey⟩ : ∃ y, rd_T60 l ((k : Nat) : Int) = y := ⟨_, rfl⟩
        have EY := Aside0.mk ey
        rw [ey] at q0 q1 n0 m0 HSY
        have N0 := Aside0.mk n0
        have M0 := Aside0.mk m0
        clear n0 m0 m1 n1 q1
        have EX := Aside0.mk ex
        rw [ex] at e0 e1 HSZ g0 l0 g1 l1
        have G0 := Aside0.mk g0
        have L0 := Aside0.mk l0
        have G1 := Aside0.mk g1
        have L1 := Aside0.mk l1
        clear hC ex g0 l0 g1 l1 ey ea
        have HBA := Aside0.mk (below_alloc HB.out (.cells #[.slice A0 x.f0.length c0, .slice A1 x.f1.length c1] 60 (0, 0)))
        have HBK := Aside0.mk (blk_new wr (.cells #[.slice A0 x.f0.length c0, .slice A1 x.f1.length c1] 60 (0, 0)))
        have HW := Aside0.mk (below_alloc (Below.refl wr.heap.size wr) (.cells #[.slice A0 x.f0.length c0, .slice A1 x.f1.length c1] 60 (0, 0)))
        have hxl : x.f1.length ≤ 20000 := HSZ.out.2.2.1
        have q0a := cell_alloc_oldR (.cells #[.slice A0 x.f0.length c0, .slice A1 x.f1.length c1] 60 (0, 0)) q0
        rw [show ((k + 1 : Nat) : Int) = (k : Int) + 1 from by omega] at *
        have gg0 : decide ((0 : Int) < (k : Int) + 1) = true := decide_eq_true (by omega)
        have hwk : IntKind.i64.wrap ((k : Int) + 1 - 1) = (k : Int) := by rw [IntKind.wrap_i64]; omega
        have gg1 : (0 : Int) ≤ (k : Int) := by omega
        have gg2 : (k : Int) < (l.length : Int) := by omega
        have aA := BW.cell ((blk_cell HBK.out 0).trans rfl)
        have bA := BW.cell ((blk_cell HBK.out 1).trans rfl)
        have pA := BW.cell q0a
        cases h1 : canL x.f0 with
        | false =>
          have HF : Aside0 (canC l = false) := ⟨HBAD.out (okC_x (EX.out ▸ canX_l h1))⟩
          have C1 := Aside0.mk (fun W (hb : Below wr.heap.size wr W) => rcanL.calls_at A0 c0 _ x.f0 false W rfl (Kd.C_below G0.out hb) L0.out HSZ.out.1 h1)
          clear h1
          go_wp2_with fail
          refine wp_region_bw (by kernel_rfl) (by kernel_rfl) ?_
          repeat (any_goals (first | go_big_quiet_step (first | (go_at_call 28; refine bw_of (C1.out _ ?_); exact below_step HW.out (BW.hb _))) | quiet_step (first | (go_at_call 28; refine bw_of (C1.out _ ?_); exact below_step HW.out (BW.hb _)))))
          all_goals (refine wpQuiet_nil ?_; intro _ hw'; obtain ⟨⟨w2, hb⟩, hw''⟩ := hw'; subst hw''; have HB2 := Aside0.mk (below_step HBA.out hb); clear hb)
          go_wp2
          go_ret
          exact ⟨by rw [HF.out]; rfl, HB2.out⟩
        | true =>
          have C1 := Aside0.mk (fun W (hb : Below wr.heap.size wr W) => rcanL.calls_at A0 c0 _ x.f0 true W rfl (Kd.C_below G0.out hb) L0.out HSZ.out.1 h1)
          by_cases h2 : x.f1.length = 0
          · have HF : Aside0 (canC l = false) := ⟨HBAD.out (okC_x (EX.out ▸ canX_n h2))⟩
            have h2i : ((x.f1.length : Int) == 0) = true := beq_iff_eq.2 (by omega)
            clear h1 h2
            go_wp2_with fail
            refine wp_region_bw (by kernel_rfl) (by kernel_rfl) ?_
            repeat (any_goals (first | go_big_quiet_step (first | (go_at_call 28; refine bw_of (C1.out _ ?_); exact below_step HW.out (BW.hb _))) | quiet_step (first | (go_at_call 28; refine bw_of (C1.out _ ?_); exact below_step HW.out (BW.hb _)))))
            all_goals (refine wpQuiet_nil ?_; intro _ hw'; obtain ⟨⟨w2, hb⟩, hw''⟩ := hw'; subst hw''; have HB2 := Aside0.mk (below_step HBA.out hb); clear hb)
            go_wp2
            go_ret
            exact ⟨by rw [HF.out]; rfl, HB2.out⟩
          · have h2i : ((x.f1.length : Int) == 0) = false := beq_eq_false_iff_ne.2 (by omega)
            cases h3 : canS x.f1 with
            | false =>
              have HF : Aside0 (canC l = false) := ⟨HBAD.out (okC_x (EX.out ▸ canX_s h3))⟩
              have C2 := Aside0.mk (fun W (hb : Below wr.heap.size wr W) => rcanSc.calls A1 c1 _ x.f1 false W rfl (Kd.C_below G1.out hb) L1.out HSZ.out.2.2.1 h3)
              clear h1 h2 h3
              go_wp2_with fail
              refine wp_region_bw (by kernel_rfl) (by kernel_rfl) ?_
              repeat (any_goals (first | go_big_quiet_step (first | (go_at_call 28; refine bw_of (C1.out _ ?_); exact below_step HW.out (BW.hb _)) | (go_at_call 41; refine bw_of (C2.out _ ?_); exact below_step HW.out (BW.hb _))) | quiet_step (first | (go_at_call 28; refine bw_of (C1.out _ ?_); exact below_step HW.out (BW.hb _)) | (go_at_call 41; refine bw_of (C2.out _ ?_); exact below_step HW.out (BW.hb _)))))
              all_goals (refine wpQuiet_nil ?_; intro _ hw'; obtain ⟨⟨w2, hb⟩, hw''⟩ := hw'; subst hw''; have HB2 := Aside0.mk (below_step HBA.out hb); clear hb)
              go_wp2
              go_ret
              exact ⟨by rw [HF.out]; rfl, HB2.out⟩
            | true =>
              have C2 := Aside0.mk (fun W (hb : Below wr.heap.size wr W) => rcanSc.calls A1 c1 _ x.f1 true W rfl (Kd.C_below G1.out hb) L1.out HSZ.out.2.2.1 h3)
              have HQ := okC_succ (l := l) (k := k) (by rw [show ((k + 1 : Nat) : Int) = (k : Int) + 1 from by omega, EX.out]; exact canX_ok h1 h2 h3)
              rw [show ((k + 1 : Nat) : Int) = (k : Int) + 1 from by omega, EX.out, EY.out] at HQ
              have C3 := Aside0.mk (fun W (hb : Below wr.heap.size wr W) => rcmpL.calls B0 A0 d0 c0 _ _ y.f0 x.f0 W rfl rfl (Kd.C_below N0.out hb) (Kd.C_below G0.out hb) HSY.out.2.1)
              clear h1 h2 h3
              by_cases hd : cmpL y.f0 x.f0 < 0
              · have HG := Aside0.mk (HS.out (by rw [HQ, decide_eq_true hd]))
                have hd1 : decide ((0 : Int) ≤ cmpL y.f0 x.f0) = false := decide_eq_false (by omega)
                clear HQ hd
                go_wp2_with fail
                refine wp_region_bw (by kernel_rfl) (by kernel_rfl) ?_
                repeat (any_goals (first | go_big_quiet_step (first | (go_at_call 28; refine bw_of (C1.out _ ?_); exact below_step HW.out (BW.hb _)) | (go_at_call 41; refine bw_of (C2.out _ ?_); exact below_step HW.out (BW.hb _)) | (go_at_call 42; refine bw_of (C3.out _ ?_); exact below_step HW.out (BW.hb _))) | quiet_step (first | (go_at_call 28; refine bw_of (C1.out _ ?_); exact below_step HW.out (BW.hb _)) | (go_at_call 41; refine bw_of (C2.out _ ?_); exact below_step HW.out (BW.hb _)) | (go_at_call 42; refine bw_of (C3.out _ ?_); exact below_step HW.out (BW.hb _)))))
                all_goals (refine wpQuiet_nil ?_; intro _ hw'; obtain ⟨⟨w2, hb⟩, hw''⟩ := hw'; subst hw''; have HB2 := Aside0.mk (below_step HBA.out hb); clear hb)
                go_wp2
                go_roundw
                case rel => exact ⟨k + 1 + 1, by omega, by go_num, HG, HB2⟩
                case measure => simp [intOf] <;> omega
              · have HF : Aside0 (canC l = false) := ⟨HBAD.out (by rw [HQ, decide_eq_false hd])⟩
                have hd1 : decide ((0 : Int) ≤ cmpL y.f0 x.f0) = true := decide_eq_true (by omega)
                clear HQ hd
                go_wp2_with fail
                refine wp_region_bw (by kernel_rfl) (by kernel_rfl) ?_
                repeat (any_goals (first | go_big_quiet_step (first | (go_at_call 28; refine bw_of (C1.out _ ?_); exact below_step HW.out (BW.hb _)) | (go_at_call 41; refine bw_of (C2.out _ ?_); exact below_step HW.out (BW.hb _)) | (go_at_call 42; refine bw_of (C3.out _ ?_); exact below_step HW.out (BW.hb _))) | quiet_step (first | (go_at_call 28; refine bw_of (C1.out _ ?_); exact below_step HW.out (BW.hb _)) | (go_at_call 41; refine bw_of (C2.out _ ?_); exact below_step HW.out (BW.hb _)) | (go_at_call 42; refine bw_of (C3.out _ ?_); exact below_step HW.out (BW.hb _)))))
                all_goals (refine wpQuiet_nil ?_; intro _ hw'; obtain ⟨⟨w2, hb⟩, hw''⟩ := hw'; subst hw''; have HB2 := Aside0.mk (below_step HBA.out hb); clear hb)
                go_wp2
                go_ret
                exact ⟨by rw [HF.out]; rfl, HB2.out⟩
    · obtain rfl : k = l.length := by omega
      have HF : Aside0 (canC l = true) := ⟨canC_ok HO.out⟩
      go_wp2
      go_ret
      exact ⟨by rw [HF.out]; rfl, HB.out⟩
end Go.Proofs.YtbgmnmjokdfmlaaDoor.PA
namespace Go.Proofs.YtbgmnmjokdfmlaaDoor.PA
open Go.RowKit Go.Proofs.YtbgmnmjokdfmlaaDoor.G Go.Proofs.YtbgmnmjokdfmlaaDoorW.PrintWords Go.Proofs.YtbgmnmjokdfmlaaDoorW.PrintLast Go.Proofs.YtbgmnmjokdfmlaaDoorW.PrintMore
set_option linter.unusedVariables false
set_option linter.unusedSimpArgs false
def partS (l : List S54) (j : Nat) : List S54 := (l.take (j * 20 + plen l.length j)).drop (j * 20)
theorem partS_len (l : List S54) (j : Nat) : (partS l j).length = plen l.length j := by
  unfold partS plen
  rw [List.length_drop, List.length_take]
  omega
theorem partS_mem {l : List S54} {j : Nat} {x : S54} (h : x ∈ partS l j) : x ∈ l := List.mem_of_mem_take (List.mem_of_mem_drop h)
theorem partS_rd (l : List S54) (j i : Nat) (h : i < plen l.length j) : rd_T54 (partS l j) (i : Int) = rd_T54 l ((j * 20 + i : Nat) : Int) := by
  simp only [rd_T54, Int.toNat_natCast, List.getD_eq_getElem?_getD, partS, List.getElem?_drop, List.getElem?_take]
  rw [if_pos (by omega)]
theorem canS_part {l : List S54} (h : canS l = true) (j : Nat) : canS (partS l j) = true := by
  unfold canS at h ⊢
  rw [partS_len]
  simp only [Bool.and_eq_true, List.all_eq_true, List.mem_range, decide_eq_true_eq] at h ⊢
  refine ⟨fun i hi => ?_, by unfold plen; omega⟩
  rw [partS_rd l j i (by omega), partS_rd l j (i + 1) (by omega)]
  exact h.1 (j * 20 + i) (by unfold plen at hi; omega)
theorem encL_len {q : List S54} (hq : q.length ≤ 20) (hok : ∀ x ∈ q, okS x) (hc : canS q = true) : (encL q).length ≤ 410 := by
  have h1 := (pkS_ok (encP q q.length) _ (Nat.le_refl _)).1
  rw [pkS_all] at h1
  rw [encL, List.length_append, beL_length]
  have h3 := encP_len q hok q.length (Nat.le_refl _)
  have := h1.near
  omega
noncomputable def encPart (u : List Int) (q : List S54) : List Int := beL (u.length + (encL q).length) 4 ++ (u ++ (encL q))
noncomputable def encPs (u : List Int) (l : List S54) (k : Nat) : List Int := (List.range k).flatMap fun j => encPart u (partS l j)
noncomputable def encSer (x : S60) : List Int := encPs (encLb x.f0) x.f1 ((x.f1.length + 19) / 20)
noncomputable def encC (l : List S60) : List Int := l.flatMap encSer
theorem encPs_step (u : List Int) (l : List S54) (k : Nat) : encPs u l (k + 1) = encPs u l k ++ encPart u (partS l k) := by
  simp [encPs, List.range_succ, List.flatMap_append]
theorem encPart_len {u : List Int} {q : List S54} (hu : u.length ≤ 600) (hq : q.length ≤ 20) (hok : ∀ x ∈ q, okS x) (hc : canS q = true) : (encPart u q).length ≤ 1014 := by
  have := encL_len hq hok hc
  rw [encPart, List.length_append, List.length_append, beL_length]
  omega
theorem encPs_len {u : List Int} {l : List S54} (hu : u.length ≤ 600) (hok : ∀ x ∈ l, okS x) (hc : canS l = true) : ∀ k, (encPs u l k).length ≤ 1014 * k
  | 0 => by simp [encPs]
  | k + 1 => by
    have ih := encPs_len hu hok hc k
    have := encPart_len (q := partS l k) hu (by rw [partS_len]; unfold plen; omega) (fun x hx => hok x (partS_mem hx)) (canS_part hc k)
    rw [encPs_step, List.length_append]
    omega
theorem encC_step (l : List S60) (k : Nat) (h : k < l.length) : encC (l.take (k + 1)) = encC (l.take k) ++ encSer (rd_T60 l (k : Int)) := by
  have e : rd_T60 l (k : Int) = l[k] := by simp [rd_T60, List.getD_eq_getElem?_getD, List.getElem?_eq_getElem h]
  rw [List.take_succ_eq_append_getElem h, e, encC, encC, List.flatMap_append]
  simp
theorem encLb_len {l : List S65} (h : canL l = true) : (encLb l).length ≤ 600 := by
  have h1 := encK_len h l.length (Nat.le_refl _)
  have h2 := (canL_parts h).2.1
  rw [encK_all] at h1
  omega
theorem encSer_len {x : S60} (h : canX x = true) (h60 : x.f1.length ≤ 60) (hok : ∀ s ∈ x.f1, okS s) : (encSer x).length ≤ 4000 := by
  unfold canX at h
  simp only [Bool.and_eq_true] at h
  have := encPs_len (encLb_len h.1) hok h.2.2 ((x.f1.length + 19) / 20)
  have h3 : (x.f1.length + 19) / 20 ≤ 3 := by omega
  rw [encSer]
  have := Nat.mul_le_mul_left 1014 h3
  omega
theorem encC_len {l : List S60} (h : canC l = true) (h60 : ∀ x ∈ l, x.f1.length ≤ 60) (hok : okZ l) : ∀ k, k ≤ l.length → (encC (l.take k)).length ≤ 4000 * k
  | 0, _ => by simp [encC]
  | k + 1, hk => by
    have ih := encC_len h h60 hok k (by omega)
    have hm := rd_memZ l k (by omega)
    have h1 := canC_parts h k (by omega)
    unfold okC at h1
    rw [Bool.and_eq_true] at h1
    have := encSer_len h1.1 (h60 _ hm) (hok _ hm).2.2.2
    rw [encC_step l k (by omega), List.length_append]
    omega
noncomputable def encYs (u : List Int) (l : List S54) (ks : List Nat) : List Int := ks.flatMap fun j => encPart u (partS l j)
theorem encYs_snoc (u : List Int) (l : List S54) (ks : List Nat) (k : Nat) : encYs u l (ks ++ [k]) = encYs u l ks ++ encPart u (partS l k) := by simp [encYs, List.flatMap_append]
theorem encYs_len {u : List Int} {l : List S54} (hu : u.length ≤ 600) (hok : ∀ x ∈ l, okS x) (hc : canS l = true) : ∀ ks : List Nat, (encYs u l ks).length ≤ 1014 * ks.length
  | [] => by simp [encYs]
  | k :: ks => by
    have ih := encYs_len hu hok hc ks
    have := encPart_len (q := partS l k) hu (by rw [partS_len]; unfold plen; omega) (fun x hx => hok x (partS_mem hx)) (canS_part hc k)
    have e : encYs u l (k :: ks) = encPart u (partS l k) ++ encYs u l ks := rfl
    rw [e, List.length_append, List.length_cons]
    omega
structure But (O B : Nat) (a b : World) : Prop where
  os : b.os = a.os
  tape : b.tape = a.tape
  output : b.output = a.output
  size : a.heap.size ≤ b.heap.size
  block : ∀ k, k < B → k ≠ O → b.heap[k]? = a.heap[k]?
theorem But.refl (O B : Nat) (a : World) : But O B a a := ⟨rfl, rfl, rfl, Nat.le_refl _, fun _ _ _ => rfl⟩
theorem But.trans {O B : Nat} {a b c : World} (h : But O B a b) (k : But O B b c) : But O B a c :=
  ⟨k.os.trans h.os, k.tape.trans h.tape, k.output.trans h.output, Nat.le_trans h.size k.size, fun i hi hn => (k.block i hi hn).trans (h.block i hi hn)⟩
theorem But.of_below {O B : Nat} {a b : World} (h : Below B a b) : But O B a b := ⟨h.os, h.tape, h.output, h.size, fun k hk _ => h.block k hk⟩
theorem But.below {O B n : Nat} {a b : World} (h : But O B a b) (h1 : n ≤ O) (h2 : n ≤ B) : Below n a b := ⟨h.os, h.tape, h.output, h.size, fun k hk => h.block k (by omega) (by omega)⟩
theorem But.setCell {O B : Nat} {a b : World} (h : But O B a b) (i : Nat) (v : Value) : But O B a (b.setCell ⟨O, i, none⟩ v) :=
  ⟨h.os, h.tape, h.output, by simpa using h.size, fun k hk hn => (Below.heap_setCell b ⟨O, i, none⟩ v k hn).trans (h.block k hk hn)⟩
theorem But.grown {O B : Nat} {a b c : World} {row : Option Nat} (h : But O B a b) (hg : b.grownBy c row) (hB : B ≤ a.heap.size) (hr : ∀ r, row = some r → B ≤ r) : But O B a c :=
  ⟨hg.os.trans h.os, hg.tape.trans h.tape, hg.output.trans h.output, Nat.le_trans h.size hg.size, fun k hk hn => (hg.block k (by have := h.size; omega) (fun e => by have := hr k e.symm; omega)).trans (h.block k hk hn)⟩
theorem R_turn {α : Type} {d : Kd α} {e base : Nat} {w1 w2 : World} {v : Value} {xs : List α} {row : Option Nat} (h : Kd.R d e w1 base (fun _ => True) v xs) (hg : w1.grownBy w2 row) (hr : ∀ r, row = some r → ∃ o : Obj, w1.heap[r]? = some o ∧ o.isCells = false) : Kd.R d e w2 base (fun _ => True) v xs :=
  Kd.R_mono (Kd.R_grown (Kd.R_bound h) hg (fun k hk he => by
    obtain ⟨o, ho, hc⟩ := hr k he.symm
    obtain ⟨q, _, cells, hcl⟩ := hk.2.2.2
    rw [hcl] at ho
    injection ho with ho
    subst ho
    cases hc)) (fun _ _ => trivial)
def markD (D : Nat) : Deferred := { target := .collected D, args := #[] }
theorem leaves_marks {F : Fence} {n : Nat} {P : Program} {fn : Func} {tmps : Array Value} {R : Ending → World → Prop} (M : World → Prop) (hend : ∀ W, M W → LeavesInM F n P fn tmps R [] .returning W) :
    ∀ (Ds : List Nat) (W : World), Ds.Nodup → (∀ D ∈ Ds, W.heap[D]? = some (.deferred (some []))) → (∀ D ∈ Ds, ∀ W, M W → W.heap[D]? = some (.deferred (some [])) → M (W.putObj D (.deferred none))) → M W → LeavesInM F n P fn tmps R (Ds.map markD) .returning W
  | [], W, _, _, _, hM => hend W hM
  | D :: Ds, W, hn, hD, hS, hM => by
    have h0 := hD D (by simp)
    refine ⟨by simp, .inl ⟨D, _, rfl, run_takeDeferred h0, ?_⟩⟩
    rw [List.nodup_cons] at hn
    refine leaves_marks M hend Ds _ hn.2 (fun D' h' => ?_) (fun D' h' => hS D' (by simp [h'])) (hS D (by simp) W hM h0)
    rw [World.putObj_heap_other (fun e => hn.1 (by subst e; exact h'))]
    exact hD D' (by simp [h'])
end Go.Proofs.YtbgmnmjokdfmlaaDoor.PA
namespace Go.Proofs.YtbgmnmjokdfmlaaDoor.PA
open Go.RowKit Go.Proofs.YtbgmnmjokdfmlaaDoor.G Go.Proofs.YtbgmnmjokdfmlaaDoorW.PrintWords Go.Proofs.YtbgmnmjokdfmlaaDoorW.PrintLast Go.Proofs.YtbgmnmjokdfmlaaDoorW.PrintMore
set_option linter.unusedVariables false
set_option linter.unusedSimpArgs false
attribute [local go_sem] Oper.semAt_some
set_option maxHeartbeats 4000000 in
set_option maxRecDepth 100000 in
theorem chunkF.calls (A1 : Option Addr) (n1 c1 : Nat) (W : World) :
    Calls Tryd.prog 31 #[.slice A1 n1 c1, .int .i64 20] W fun e w' => e = .returned (.func (.func 62) #[] #[.pointer (some ⟨W.heap.size, 0, none⟩), .pointer (some ⟨W.heap.size + 1, 0, none⟩)]) ∧ w' = (W.alloc (.cells #[.slice A1 n1 c1] 30)).alloc (.cells #[.int .i64 20] 3) := by
  go_enter Tryd.func31, Tryd.ntmps31
  go_wp2
  go_ret
  exact ⟨rfl, rfl⟩
set_option maxHeartbeats 4000000 in
set_option maxRecDepth 100000 in
theorem encC.calls (A : Option Addr) (c n : Nat) (l : List S60) (w : World) (hn : l.length = n) (hr : Kd.C k60 w A n l) (hc : n ≤ c) (hok : okZ l) (hl : n ≤ 8) (h60 : ∀ x ∈ l, x.f1.length ≤ 60) (hT : TabZ w) (h : canC l = true) :
    Calls Tryd.prog 14 #[.slice A n c] w fun e w' => ∃ v : Value, e = .returned (.tuple #[v, .int .i64 0]) ∧ Kd.R (Kd.int .u8) 5 w' w.heap.size (fun _ => True) v (encC l) ∧ Below w.heap.size w w' := by
  subst hn
  have HR := Aside0.mk hr
  have HK := Aside0.mk hok
  have HT := Aside0.mk hT
  have H60 := Aside0.mk h60
  have HCAN : Aside0 (Calls Tryd.prog 17 #[.slice A l.length c] w fun e w' => e = .returned (.bool true) ∧ Below w.heap.size w w') := ⟨h ▸ canC.calls A c l.length l w rfl hr hc hok (by omega)⟩
  have HP := Aside0.mk (canC_parts h)
  have HEC := Aside0.mk (encC_len h h60 hok)
  clear hr hok hT h h60
  refine (callsIn_wide (n := 5)).1 (callsIn_of_wp_marks Tryd.func14 rfl trivial ?_ rfl)
  simp only [Tryd.ntmps14, List.size_toArray, List.length_cons, List.length_nil, Nat.reduceAdd, Nat.reduceSub, Array.replicate_succ, Array.replicate_zero, List.push_toArray, List.append_toArray, List.nil_append, List.cons_append]
  refine wpIn_wide.2 ?_
  go_wp2_with (first | (go_at_call 17; (with_reducible refine HCAN.out.mono ?_); rintro e w1 ⟨rfl, hb⟩; have HB1 := Aside0.mk hb; clear hb))
  have HB0 := Aside0.mk (below_alloc HB1.out (.cells #[.slice none 0 0] 22))
  have HO0 : (w1.alloc (.cells #[.slice none 0 0] 22)).heap[w1.heap.size]? = some (.cells #[.slice none 0 0] 22 (0, 0)) := World.alloc_heap_new _ _
  have HV0 : Aside0 (Kd.R (Kd.int .u8) 5 (w1.alloc (.cells #[.slice none 0 0] 22)) w.heap.size (fun _ => True) (.slice none 0 0) (encC (l.take 0))) := ⟨Kd.R_nil _ _ _ _ _⟩
  refine wp_loop_ghost_k (fun gk a wr => ∃ (k : Nat) (Ds : List Nat) (u6 u7 u8 u18 u19 u20 u21 u22 u23 u24 u25 u26 u27 u28 u29 u48 : Value), (k + gk = l.length ∧ Ds.Nodup ∧ (∀ D ∈ Ds, w1.heap.size < D ∧ wr.heap[D]? = some (.deferred (some []))) ∧ Aside0 (Below w.heap.size w wr) ∧ ∃ v : Value, wr.heap[w1.heap.size]? = some (.cells #[v] 22 (0, 0)) ∧ Aside0 (Kd.R (Kd.int .u8) 5 wr w.heap.size (fun _ => True) v (encC (l.take k)))) ∧ a = { tmps := #[.slice A l.length c, undef, .slice none 0 0, .int .i64 0, .pointer (some ⟨w1.heap.size, 0, none⟩), undef, u6, u7, u8, undef, undef, undef, .slice A l.length c, .bool true, .bool false, .slice A l.length c, .int .i64 (l.length : Int), .int .i64 (k : Int), u18, u19, u20, u21, u22, u23, u24, u25, u26, u27, u28, u29, undef, undef, undef, undef, undef, undef, undef, undef, undef, undef, undef, undef, undef, undef, undef, undef, undef, undef, u48, undef], defers := Ds.map markD }) l.length ?start ?round
  case start => exact ⟨0, [], _, _, _, _, _, _, _, _, _, _, _, _, _, _, _, _, ⟨Nat.zero_add _, List.nodup_nil, (fun D h => by cases h), HB0, _, HO0, HV0⟩, rfl⟩
  case round =>
    clear HB0 HO0 HV0
    rintro gk a wr ⟨k, Ds, u6, u7, u8, u18, u19, u20, u21, u22, u23, u24, u25, u26, u27, u28, u29, u48, ⟨hk, hnd, hD, HB, v, hO, HV⟩, rfl⟩ J K hJ hK
    dsimp only
    by_cases hlt : k < l.length
    · obtain ⟨ad, A0, c0, A1, c1, rfl, e0, e1, l0, g0, l1, g1⟩ := at_T60 HR.out (k : Int) (by omega) (by omega)
      rw [Int.toNat_natCast] at e0 e1
      have e0 := pw_cell_below HB.out e0
      have e1 := pw_cell_below HB.out e1
      have HX := Aside0.mk (HK.out _ (rd_memZ l k hlt))
      have HX60 := Aside0.mk (H60.out _ (rd_memZ l k hlt))
      have HCX := Aside0.mk (HP.out k hlt)
      obtain ⟨x, ex⟩ : ∃ x, rd_T60 l (k : Int) = x := ⟨_, rfl⟩
      have EX := Aside0.mk ex
      rw [ex] at e0 e1 HX g0 l0 g1 l1 HX60
      have G0 := Aside0.mk g0
      have L0 := Aside0.mk l0
      have G1 := Aside0.mk g1
      have L1 := Aside0.mk l1
      obtain ⟨a1, hA1, _⟩ := g1.2.2 (Nat.pos_of_ne_zero (by
        have h1 := HCX.out
        rw [okC, ex, canX] at h1
        simp only [Bool.and_eq_true, Bool.not_eq_true', decide_eq_false_iff_not] at h1
        exact h1.1.2.1))
      clear ex g0 l0 g1 l1
      subst hA1
      have HCL : Aside0 (canL x.f0 = true ∧ canS x.f1 = true ∧ ¬ x.f1.length = 0) := ⟨by
        have h1 := HCX.out
        rw [okC, EX.out, canX] at h1
        simp only [Bool.and_eq_true, Bool.not_eq_true', decide_eq_false_iff_not] at h1
        exact ⟨h1.1.1, h1.1.2.2, h1.1.2.1⟩⟩
      have HBW := Aside0.mk (below_alloc (Below.refl wr.heap.size wr) (.cells #[.slice A0 x.f0.length c0, .slice (some a1) x.f1.length c1] 60 (0, 0)))
      have HBK := Aside0.mk (blk_new wr (.cells #[.slice A0 x.f0.length c0, .slice (some a1) x.f1.length c1] 60 (0, 0)))
      have CE := Aside0.mk (fun W (hb : Below wr.heap.size wr W) => encLb.calls A0 c0 _ x.f0 W rfl (Kd.C_below G0.out (below_step HB.out hb)) L0.out HCL.out.1)
      go_wp2_with (first | (go_at_call 30; (with_reducible refine (CE.out _ HBW.out).mono ?_); rintro e w2 ⟨v5, rfl, hr5, hb⟩; obtain ⟨a5, c5, rfl⟩ := Kd.R_slice1 hr5 (by simp [encLb]); have HR5 := Aside0.mk hr5; have HB2 := Aside0.mk (below_step HBW.out hb); have HBK2 := Aside0.mk (blk_below HBK.out hb); have b1 := cell_alloc_old (.cells #[.slice (some a5) (encLb x.f0).length c5] 22) ((blk_cell HBK2.out 1).trans rfl); clear hb hr5) | (go_at_call 31; (with_reducible refine (chunkF.calls (some a1) _ c1 _).mono ?_); rintro e w3 ⟨rfl, rfl⟩))
      obtain ⟨W0, hW0⟩ : ∃ W0, (((w2.alloc (.cells #[.slice (some a5) (encLb x.f0).length c5] 22)).alloc (.cells #[.slice (some a1) x.f1.length c1] 30)).alloc (.cells #[.int .i64 20] 3)) = W0 := ⟨_, rfl⟩
      have hs0 : W0.heap.size = w2.heap.size + 3 := by rw [← hW0]; simp
      have H2W : Aside0 (Below w2.heap.size w2 W0) := ⟨by rw [← hW0]; exact below_alloc (below_alloc (below_alloc (Below.refl _ _) _) _) _⟩
      have HU : Aside0 (W0.heap[w2.heap.size]? = some (.cells #[.slice (some a5) (encLb x.f0).length c5] 22 (0, 0))) := ⟨by
        rw [← hW0]; exact ((Below.heap_alloc _ _ _ (by simp; omega)).trans (Below.heap_alloc _ _ _ (by simp))).trans (World.alloc_heap_new w2 _)⟩
      have HX1 : Aside0 (W0.cell? ⟨w2.heap.size + 1, 0, none⟩ = some (.slice (some a1) x.f1.length c1)) := ⟨by
        have h0 : W0.heap[w2.heap.size + 1]? = some (.cells #[.slice (some a1) x.f1.length c1] 30 (0, 0)) := by
          rw [← hW0]
          refine (Below.heap_alloc _ _ _ (by simp)).trans ?_
          have := World.alloc_heap_new (w2.alloc (.cells #[.slice (some a5) (encLb x.f0).length c5] 22)) (.cells #[.slice (some a1) x.f1.length c1] 30)
          rwa [World.size_alloc] at this
        exact (cell_of_row W0 _ 0 _ _ _ h0).trans rfl⟩
      have HX2 : Aside0 (W0.cell? ⟨w2.heap.size + 1 + 1, 0, none⟩ = some (.int .i64 20)) := ⟨by
        have h0 : W0.heap[w2.heap.size + 1 + 1]? = some (.cells #[.int .i64 20] 3 (0, 0)) := by
          rw [← hW0]
          have := World.alloc_heap_new ((w2.alloc (.cells #[.slice (some a5) (encLb x.f0).length c5] 22)).alloc (.cells #[.slice (some a1) x.f1.length c1] 30)) (.cells #[.int .i64 20] 3)
          rwa [World.size_alloc, World.size_alloc] at this
        exact (cell_of_row W0 _ 0 _ _ _ h0).trans rfl⟩
      rw [hW0]
      have HrW := Aside0.mk (below_step HB2.out H2W.out)
      have hsz : w1.heap.size < wr.heap.size := (Array.getElem?_eq_some_iff.1 hO).1
      have hszr : wr.heap.size ≤ w2.heap.size := HB2.out.size
      have hszw : w.heap.size ≤ w1.heap.size := HB1.out.size
      have hO0 : W0.heap[w1.heap.size]? = some (.cells #[v] 22 (0, 0)) := (HrW.out.block _ hsz).trans hO
      have HV0 := Aside0.mk (Kd.R_below HV.out HrW.out)
      have HR50 := Aside0.mk (Kd.R_bound (Kd.R_lower (Kd.R_below HR5.out H2W.out) (base' := wr.heap.size) (by simp)))
      have HBT := Aside0.mk (below_step HB.out HrW.out)
      have hD0 : ∀ D ∈ Ds, w1.heap.size < D ∧ D < W0.heap.size ∧ W0.heap[D]? = some (.deferred (some [])) := fun D h => by
        have h1 := hD D h
        have h2 := (Array.getElem?_eq_some_iff.1 h1.2).1
        exact ⟨h1.1, by have := HrW.out.size; omega, (HrW.out.block D h2).trans h1.2⟩
      have HEL : Aside0 ((encLb x.f0).length ≤ 600) := ⟨encLb_len HCL.out.1⟩
      have HPL : Aside0 ((encC (l.take k)).length ≤ 40000) := ⟨by have := HEC.out k (by omega); omega⟩
      have HOS : Aside0 (∀ s ∈ x.f1, okS s) := ⟨HX.out.2.2.2⟩
      have hn3 : (x.f1.length + 19) / 20 ≤ 3 := by have := HX60.out; omega
      have hTW := Aside0.mk (HT.out.below HBT.out)
      clear hW0 HBK HBK2 b1 e0 e1 G0 L0 HBW CE hO hD
      generalize hu : encLb x.f0 = u at *
      refine wpIn_wide.1 (wpIn_rangeFunc_ownF (F := Fence.wide) (n := 5) rfl (by decide) (gf := 62) (lb := #[.pointer (some ⟨w2.heap.size + 1, 0, none⟩), .pointer (some ⟨w2.heap.size + 1 + 1, 0, none⟩)]) rfl trivial (enters_of Tryd.func62 (by kernel_rfl) rfl)
        (chunkIt_stops 4 (by decide) (w2.heap.size + 1) (w2.heap.size + 1 + 1) a1 x.f1.length c1 (by have := HX60.out; omega) L1.out W0 (by omega) (by omega) HX1.out HX2.out) KeepB.trans (keepB_b (by omega) (by omega)) (Below.refl _ _) (fun _ => rfl)
        (fun pre W => (∃ vo, W.heap[w1.heap.size]? = some (.cells #[vo] 22 (0, 0)) ∧ Kd.R (Kd.int .u8) 5 W w.heap.size (fun _ => True) vo (encC (l.take k) ++ encYs u x.f1 (partsN pre))) ∧ But w1.heap.size W0.heap.size W0 W)
        (fun _ _ _ => False) ?own (fun _ _ _ _ _ hs _ _ => hs) ?first _ (fun lp y W K hK => by dsimp only [encPt]; gi_wp2; exact hK) ?body ?done ?stop)
      case own =>
        rintro s W W' row ⟨⟨vo, ho, hv⟩, hb⟩ hg hr
        refine ⟨⟨vo, ?_, R_turn hv hg (fun r e => (hr r e).2)⟩, hb.grown hg (Nat.le_refl _) (fun r e => (hr r e).1)⟩
        refine (hg.block _ (Array.getElem?_eq_some_iff.1 ho).1 (fun e => ?_)).trans ho
        have := (hr _ e.symm).1
        omega
      case first => exact ⟨⟨v, hO0, by have := HV0.out; simpa [encYs, partsN] using this⟩, But.refl _ _ _⟩
      case stop => exact fun _ _ _ _ _ _ h => h.elim
      case done =>
        rintro D ys W hDs hys ⟨⟨vo, ho, hv⟩, hbut⟩ hDn
        have HBn : Aside0 (Below w.heap.size w W) := ⟨HBT.out.trans (hbut.below (by omega) (by omega))⟩
        have HVn : Aside0 (Kd.R (Kd.int .u8) 5 W w.heap.size (fun _ => True) vo (encC (l.take (k + 1)))) := ⟨by
          rw [encC_step l k hlt, EX.out]
          have e : encYs u x.f1 (partsN ys) = encSer x := by rw [hys, encSer, hu]; rfl
          rwa [e] at hv⟩
        have HDn : Aside0 ((D :: Ds).Nodup ∧ ∀ D' ∈ D :: Ds, w1.heap.size < D' ∧ W.heap[D']? = some (.deferred (some []))) := ⟨by
          refine ⟨List.nodup_cons.2 ⟨fun h => by have := hD0 D h; omega, hnd⟩, fun D' h => ?_⟩
          rcases List.mem_cons.1 h with rfl | h
          · exact ⟨by omega, hDn⟩
          · exact ⟨(hD0 D' h).1, (hbut.block D' (hD0 D' h).2.1 (by have := (hD0 D' h).1; omega)).trans (hD0 D' h).2.2⟩⟩
        clear hbut hv hDn hys hD0
        go_wp2
        have hkl : Value.int .i64 ((k : Int) + 1) = .int .i64 ((k + 1 : Nat) : Int) := by congr 1
        rw [hkl]
        exact Handed.intro (gk - 1) (by omega) (hJ _ _ _ ⟨k + 1, D :: Ds, _, _, _, _, _, _, _, _, _, _, _, _, _, _, _, _, ⟨by omega, HDn.out.1, HDn.out.2, HBn, vo, ho, HVn⟩, rfl⟩)
      case body =>
        rintro lp pre ⟨j, hj⟩ W ⟨⟨vo, ho, hv⟩, hbut⟩ hlen
        dsimp only
        have hbw : Below w.heap.size w W := HBT.out.trans (hbut.below (by omega) (by omega))
        obtain ⟨q, hq⟩ : ∃ q, partS x.f1 j = q := ⟨_, rfl⟩
        obtain ⟨m, hm⟩ : ∃ m, plen x.f1.length j = m := ⟨_, rfl⟩
        have hql : q.length = m := by rw [← hq, partS_len, hm]
        have hm20 : 1 ≤ m ∧ m ≤ 20 ∧ j * 20 + m ≤ x.f1.length := by rw [← hm]; unfold plen; omega
        have HQO : Aside0 (∀ s ∈ q, okS s) := ⟨fun s hs => HOS.out s (partS_mem (hq ▸ hs))⟩
        have HQC : Aside0 (canS q = true) := ⟨hq ▸ canS_part HCL.out.2.1 j⟩
        have HQ : Aside0 (Kd.C k54 W (some (a1.add (j * 20 * 2))) q.length q) := ⟨by
          have h1 := Kd.C_mid (c := c1) (lo := j * 20) (hi := j * 20 + m) (Kd.C_below G1.out hbw) (by omega) hm20.2.2 L1.out
          rw [if_neg (by have := L1.out; omega)] at h1
          have e : (x.f1.take (j * 20 + m)).drop (j * 20) = q := by rw [← hq, ← hm]; rfl
          rw [e] at h1
          exact h1⟩
        have ENC := Aside0.mk (codec_Encode.calls_at (n := m) (some (a1.add (j * 20 * 2))) m q W (encL q) 0 hql HQ.out (Nat.le_refl _) HQO.out (by omega) (HT.out.below hbw) (by rw [encF, if_pos HQC.out]))
        have HQL : Aside0 ((encL q).length ≤ 410 ∧ 0 < (encL q).length) := ⟨encL_len (by omega) HQO.out HQC.out, by rw [encL, List.length_append, beL_length]; omega⟩
        rw [hm]
        refine wpIn_block (wpIn_seq ?_)
        gi_wp2_with (first | (refine ⟨trivial, ?_⟩; gi_at_call 32; (refine (CallsIn.inRound lp (callsIn_wide.2 ENC.out)).mono ?_); rintro e wa ⟨v1, rfl, hr1, hb1⟩; obtain ⟨a6, c6, rfl⟩ := Kd.R_slice1 hr1 HQL.out.2; have HRa := Aside0.mk hr1; have HBa := Aside0.mk hb1; clear hr1 hb1))
        obtain ⟨LV, hLV⟩ : ∃ LV, encC (l.take k) ++ encYs u x.f1 (partsN pre) = LV := ⟨_, rfl⟩
        rw [hLV] at hv
        obtain ⟨Av, cv, rfl⟩ := Kd.R_slice hv
        have HRa5 : Aside0 (Kd.R (Kd.int .u8) 5 wa wr.heap.size (fun _ => True) (.slice (some a5) u.length c5) u) := ⟨by
          have h1 := Kd.R_move HR50.out (w1 := W) (fun k hk => hbut.block k hk.2.2.1 (by have := hk.2.1; omega))
          exact Kd.R_mono (Kd.R_below h1 HBa.out) (fun _ _ => trivial)⟩
        have HVa := Aside0.mk (Kd.R_below hv HBa.out)
        have HOa : Aside0 (wa.heap[w1.heap.size]? = some (.cells #[.slice Av LV.length cv] 22 (0, 0))) := ⟨(HBa.out.block _ (Array.getElem?_eq_some_iff.1 ho).1).trans ho⟩
        have HUa : Aside0 (wa.heap[w2.heap.size]? = some (.cells #[.slice (some a5) u.length c5] 22 (0, 0))) := ⟨(HBa.out.block _ (by have := hbut.size; omega)).trans ((hbut.block _ (by omega) (by omega)).trans HU.out)⟩
        refine wpIn_region_wide0 lp _ (by kernel_rfl) (by kernel_rfl) (GHead.start (n := 12) (S := fun W' => Below wa.heap.size wa W') (by decide) ?_)
        have HcO : Aside0 (∀ W', Below wa.heap.size wa W' → W'.cell? ⟨w1.heap.size, 0, none⟩ = some (.slice Av LV.length cv)) := ⟨fun W' hb => pw_cell_below hb ((cell_of_row wa _ 0 _ _ _ HOa.out).trans rfl)⟩
        have HcU : Aside0 (∀ W', Below wa.heap.size wa W' → W'.cell? ⟨w2.heap.size, 0, none⟩ = some (.slice (some a5) u.length c5)) := ⟨fun W' hb => pw_cell_below hb ((cell_of_row wa _ 0 _ _ _ HUa.out).trans rfl)⟩
        have HS := Aside0.mk (below_drew (Below.refl wa.heap.size wa))
        refine GHead.take' (i := 0) (v := ?_) rfl rfl (by kernel_rfl) (fun _ _ _ h => by cases h.1) (Or.inl ⟨by rfl, ?_⟩) HS.out ?_
        rotate_left
        · (intro W' hW'; have c1 := HcO.out W' hW'; have c2 := HcU.out W' hW'; go_simp; try (with_reducible rfl))
        try simp only [List.setIfInBounds_toArray, List.set_cons_zero, List.set_cons_succ]
        refine GHead.take' (i := 1) (v := ?_) rfl rfl (by kernel_rfl) (fun _ _ _ h => by cases h.1) (Or.inl ⟨by rfl, ?_⟩) HS.out ?_
        rotate_left
        · (intro W' hW'; have c1 := HcO.out W' hW'; have c2 := HcU.out W' hW'; go_simp; try (with_reducible rfl))
        try simp only [List.setIfInBounds_toArray, List.set_cons_zero, List.set_cons_succ]
        refine GHead.take' (i := 2) (v := ?_) rfl rfl (by kernel_rfl) (fun _ _ _ h => by cases h.1) (Or.inl ⟨by rfl, ?_⟩) HS.out ?_
        rotate_left
        · (intro W' hW'; have c1 := HcO.out W' hW'; have c2 := HcU.out W' hW'; go_simp; try (with_reducible rfl))
        try simp only [List.setIfInBounds_toArray, List.set_cons_zero, List.set_cons_succ]
        refine GHead.take' (i := 3) (v := ?_) rfl rfl (by kernel_rfl) (fun _ _ _ h => by cases h.1) (Or.inl ⟨by rfl, ?_⟩) HS.out ?_
        rotate_left
        · (intro W' hW'; have c1 := HcO.out W' hW'; have c2 := HcU.out W' hW'; go_simp; try (with_reducible rfl))
        try simp only [List.setIfInBounds_toArray, List.set_cons_zero, List.set_cons_succ]
        refine GHead.take' (i := 4) (v := ?_) rfl rfl (by kernel_rfl) (fun _ _ _ h => by cases h.1) (Or.inl ⟨by rfl, ?_⟩) HS.out ?_
        rotate_left
        · (intro W' hW'; have c1 := HcO.out W' hW'; have c2 := HcU.out W' hW'; go_simp; try (with_reducible rfl))
        try simp only [List.setIfInBounds_toArray, List.set_cons_zero, List.set_cons_succ]
        refine GHead.take' (i := 5) (v := ?_) rfl rfl (by kernel_rfl) (fun _ _ _ h => by cases h.1) (Or.inl ⟨by rfl, ?_⟩) HS.out ?_
        rotate_left
        · (intro W' hW'; have c1 := HcO.out W' hW'; have c2 := HcU.out W' hW'; go_simp; try (with_reducible rfl))
        try simp only [List.setIfInBounds_toArray, List.set_cons_zero, List.set_cons_succ]
        refine GHead.take' (i := 6) (v := ?_) rfl rfl (by kernel_rfl) (fun _ _ _ h => by cases h.1) (Or.inl ⟨by rfl, ?_⟩) HS.out ?_
        rotate_left
        · (intro W' hW'; have c1 := HcO.out W' hW'; have c2 := HcU.out W' hW'; go_simp; try (with_reducible rfl))
        try simp only [List.setIfInBounds_toArray, List.set_cons_zero, List.set_cons_succ]
        refine GHead.take' (i := 8) (v := ?_) rfl rfl (by kernel_rfl) (fun _ _ _ h => by cases h.1) (Or.inl ⟨by rfl, ?_⟩) HS.out ?_
        rotate_left
        · (intro W' hW'; have c1 := HcO.out W' hW'; have c2 := HcU.out W' hW'; go_simp; try (with_reducible rfl))
        try simp only [List.setIfInBounds_toArray, List.set_cons_zero, List.set_cons_succ]
        refine GHead.take' (i := 9) (v := ?_) rfl rfl (by kernel_rfl) (fun _ _ _ h => by cases h.1) (Or.inl ⟨by rfl, ?_⟩) HS.out ?_
        rotate_left
        · (intro W' hW'; have c1 := HcO.out W' hW'; have c2 := HcU.out W' hW'; go_simp; try (with_reducible rfl))
        try simp only [List.setIfInBounds_toArray, List.set_cons_zero, List.set_cons_succ]
        have PUT : Aside0 (∀ W', Calls Tryd.prog 34 #[.int .u64 (IntKind.u64.wrap (IntKind.i64.wrap ((u.length : Int) + ((encL q).length : Int)))), .int .i64 4] W' fun e w' => ∃ v0_ : Value, e = .returned v0_ ∧ Kd.R (Kd.int .u8) 5 w' W'.heap.size (fun _ => True) v0_ (beL (u.length + (encL q).length) 4) ∧ Below W'.heap.size W' w') := ⟨fun W' => crc_Put.calls _ _ _ W' (by
          have h1 : IntKind.i64.wrap ((u.length : Int) + ((encL q).length : Int)) = ((u.length + (encL q).length : Nat) : Int) := by
            rw [IntKind.wrap_i64]
            have := HEL.out
            have := HQL.out
            omega
          have h2 := put_f (q := ((u.length + (encL q).length : Nat) : Int)) (by omega) (by have := HEL.out; have := HQL.out; omega) 4
          rw [h1]
          rwa [Int.toNat_natCast] at h2)⟩
        refine GHead.one (i := 7) rfl (by kernel_rfl) (by rfl) (fun KK hKK => ?_)
        go_simp
        refine (PUT.out _).mono ?_
        rintro e wb ⟨v3, rfl, hr3, hb3⟩
        obtain ⟨a3, c3, rfl⟩ := Kd.R_slice1 hr3 (by rw [beL_length]; decide)
        have HRb := Aside0.mk hr3
        have HBb := Aside0.mk (below_step HS.out hb3)
        refine hKK _ _ HBb.out ?_
        clear hKK hr3 hb3 HcO HcU
        refine GHead.one (i := 10) rfl (by kernel_rfl) (by rfl) (fun K1 hK1 => ?_)
        go_simp
        have HBc := Aside0.mk (below_alloc HBb.out (.cells #[.slice Av LV.length cv, .slice (some a3) (beL (u.length + (encL q).length) 4).length c3, .slice (some a5) u.length c5, .slice (some a6) (encL q).length c6] 22))
        have HNb := Aside0.mk (blk_new wb (.cells #[.slice Av LV.length cv, .slice (some a3) (beL (u.length + (encL q).length) 4).length c3, .slice (some a5) u.length c5, .slice (some a6) (encL q).length c6] 22))
        have HBcb := Aside0.mk (below_alloc (Below.refl wb.heap.size wb) (.cells #[.slice Av LV.length cv, .slice (some a3) (beL (u.length + (encL q).length) 4).length c3, .slice (some a5) u.length c5, .slice (some a6) (encL q).length c6] 22))
        refine hK1 _ _ HBc.out ?_
        clear hK1
        generalize (wb.alloc (.cells #[.slice Av LV.length cv, .slice (some a3) (beL (u.length + (encL q).length) 4).length c3, .slice (some a5) u.length c5, .slice (some a6) (encL q).length c6] 22)) = wc at *
        have hv1 := Kd.R_below HVa.out HBc.out
        have hr3 := Kd.R_below HRb.out HBcb.out
        have hr5 := Kd.R_below HRa5.out HBc.out
        have hr6 := Kd.R_below HRa.out HBc.out
        have HLVL : Aside0 (LV.length ≤ 50000) := ⟨by
          rw [← hLV, List.length_append]
          have h1 := HPL.out
          have h2 := encYs_len (l := x.f1) HEL.out HOS.out HCL.out.2.1 (partsN pre)
          rw [partsN_length] at h2
          omega⟩
        have CON := Aside0.mk (concatB.calls (some ⟨wb.heap.size, 0, none⟩) 4 4 [LV, beL (u.length + (encL q).length) 4, u, encL q] wc rfl
          (four_C wc wb.heap.size Av (some a3) (some a5) (some a6) cv c3 c5 c6 LV _ u _ _ _ HNb.out (Kd.R_reads' hv1).2.2 (Kd.R_reads' hv1).2.1 (Kd.R_reads' hr3).2.2 (Kd.R_reads' hr3).2.1 (Kd.R_reads' hr5).2.2 (Kd.R_reads' hr5).2.1 (Kd.R_reads' hr6).2.2 (Kd.R_reads' hr6).2.1) (by decide) (by
            simp only [List.flatten_cons, List.flatten_nil, List.length_append, List.length_nil, beL_length]
            have := HLVL.out
            have := HEL.out
            have := HQL.out
            omega))
        clear hv1 hr3 hr5 hr6
        refine GHead.one (i := 11) rfl (by kernel_rfl) (by rfl) (fun K2 hK2 => ?_)
        go_simp
        refine CON.out.mono ?_
        rintro e wd ⟨v4, rfl, hr4, hb4⟩
        obtain ⟨LN, hLN⟩ : ∃ LN, [LV, beL (u.length + (encL q).length) 4, u, encL q].flatten = LN := ⟨_, rfl⟩
        rw [hLN] at hr4
        have HLN : Aside0 (encC (l.take k) ++ encYs u x.f1 (partsN (pre ++ [⟨j, hj⟩])) = LN) := ⟨by
          rw [partsN_snoc, encYs_snoc, hq, ← List.append_assoc, hLV, ← hLN, encPart]
          simp only [List.flatten_cons, List.flatten_nil, List.append_nil]⟩
        clear hLN
        obtain ⟨A4, c4, rfl⟩ := Kd.R_slice hr4
        have HBd := Aside0.mk (below_step HBc.out hb4)
        have HRd := Aside0.mk hr4
        clear hr4 hb4
        refine hK2 _ _ HBd.out ?_
        clear hK2
        have HOd : Aside0 (wd.heap[w1.heap.size]? = some (.cells #[.slice Av LV.length cv] 22 (0, 0))) := ⟨(HBd.out.block _ (Array.getElem?_eq_some_iff.1 HOa.out).1).trans HOa.out⟩
        have co : wd.cell? ⟨w1.heap.size, 0, none⟩ = some (.slice Av LV.length cv) := (cell_of_row wd _ 0 _ _ _ HOd.out).trans rfl
        have fo : wd.frozen? ⟨w1.heap.size, 0, none⟩ = false := blk_frozen HOd.out 0
        refine GHead.last rfl (by kernel_rfl) (by rfl) (fun K3 hK3 => ?_)
        go_simp
        refine hK3 _ _ ⟨rfl, ?_⟩
        clear hK3 co fo
        have hsW : W.heap.size ≤ wa.heap.size := HBa.out.size
        have hsa : wa.heap.size ≤ wd.heap.size := HBd.out.size
        have HWd := Aside0.mk (below_step HBa.out HBd.out)
        have hO5 : (wd.setCell ⟨w1.heap.size, 0, none⟩ (.slice A4 LN.length c4)).heap[w1.heap.size]? = some (.cells #[.slice A4 LN.length c4] 22 (0, 0)) := blk_put HOd.out 0 _ rfl
        refine ⟨⟨by simp; omega, fun i o hi ho' => ?_⟩, ⟨?_, ?_⟩, ⟨.slice A4 LN.length c4, hO5, ?_⟩, ?_⟩
        · have h1 := (HWd.out.block _ (Array.getElem?_eq_some_iff.1 hi).1).trans hi
          refine (Below.heap_setCell wd ⟨w1.heap.size, 0, none⟩ _ i (fun e => ?_)).trans h1
          have e' : i = w1.heap.size := e
          subst e'
          rw [HOd.out] at h1
          injection h1 with h1
          subst h1
          cases ho'
        · exact (Below.heap_setCell wd ⟨w1.heap.size, 0, none⟩ _ _ (fun e => by have e' : w2.heap.size + 1 = w1.heap.size := e; omega)).trans (HWd.out.block _ (by have := hbut.size; omega))
        · exact (Below.heap_setCell wd ⟨w1.heap.size, 0, none⟩ _ _ (fun e => by have e' : w2.heap.size + 1 + 1 = w1.heap.size := e; omega)).trans (HWd.out.block _ (by have := hbut.size; omega))
        · rw [HLN.out]
          have h1 := Kd.R_far (Kd.R_bound HRd.out) (p := ⟨w1.heap.size, 0, none⟩) (fun i hi => (by have h1 := hi.2.1; have h2 := HBc.out.size; have h3 := hbut.size; show i ≠ w1.heap.size; omega)) (.slice A4 LN.length c4)
          exact Kd.R_mono (Kd.R_lower h1 (base' := w.heap.size) (by have := HBc.out.size; have := hbut.size; omega)) (fun _ _ => trivial)
        · exact (hbut.trans (But.of_below (HWd.out.mono hbut.size))).setCell 0 _
    · obtain rfl : k = l.length := by omega
      have hnk : ¬ ((l.length : Int) < (l.length : Int)) := by omega
      rw [List.take_length] at HV
      obtain ⟨Av, cv, rfl⟩ := Kd.R_slice HV.out
      have co := (cell_of_row wr w1.heap.size 0 _ _ _ hO).trans rfl
      go_wp2
      refine leaves_marks (fun W => Kd.R (Kd.int .u8) 5 W w.heap.size (fun _ => True) (.slice Av (encC l).length cv) (encC l) ∧ Below w.heap.size w W) (fun W hM => ?_) Ds wr hnd (fun D h => (hD D h).2) (fun D h W hM hd => ?_) ⟨HV.out, HB.out⟩
      · exact ⟨_, results_tmp2 rfl _ _ _, _, rfl, hM.1, hM.2⟩
      · exact ⟨R_turn hM.1 (grownBy_putObj' W D _) (fun r e => by cases e; exact ⟨_, hd, rfl⟩), hM.2.trans (belowK_b (w := w) (Nat.le_refl _) W D _ _ (by have := (hD D h).1; have := HB1.out.size; omega) hd rfl rfl)⟩
end Go.Proofs.YtbgmnmjokdfmlaaDoor.PA
namespace Go.Proofs.YtbgmnmjokdfmlaaDoor.PA
open Go.RowKit Go.Proofs.YtbgmnmjokdfmlaaDoor.G Go.Proofs.YtbgmnmjokdfmlaaDoorW.PrintWords Go.Proofs.YtbgmnmjokdfmlaaDoorW.PrintLast Go.Proofs.YtbgmnmjokdfmlaaDoorW.PrintMore
set_option linter.unusedVariables false
set_option linter.unusedSimpArgs false
set_option maxHeartbeats 4000000 in
set_option maxRecDepth 100000 in
theorem encC.bad (A : Option Addr) (c n : Nat) (l : List S60) (w : World) (hn : l.length = n) (hr : Kd.C k60 w A n l) (hc : n ≤ c) (hok : okZ l) (hl : n ≤ 8) (h : canC l = false) :
    Calls Tryd.prog 14 #[.slice A n c] w fun e w' => e = .returned (.tuple #[.slice none 0 0, .int .i64 1]) ∧ Below w.heap.size w w' := by
  subst hn
  have HCAN : Aside0 (Calls Tryd.prog 17 #[.slice A l.length c] w fun e w' => e = .returned (.bool false) ∧ Below w.heap.size w w') := ⟨h ▸ canC.calls A c l.length l w rfl hr hc hok (by omega)⟩
  clear hr hok h
  go_enter Tryd.func14, Tryd.ntmps14
  go_wp2_with (first | (go_at_call 17; (with_reducible refine HCAN.out.mono ?_); rintro e w1 ⟨rfl, hb⟩; have HB1 := Aside0.mk hb; clear hb))
  refine bodyPost_ret (results_tmp2 rfl _ _ _) rfl ?_
  exact ⟨rfl, HB1.out⟩
noncomputable def encCF (l : List S60) : List Int × Int := if canC l = true then (encC l, 0) else ([], 1)
theorem encCF.calls (A : Option Addr) (c n : Nat) (l : List S60) (eb : List Int) (ee : Int) (w : World) (hn : l.length = n) (hr : Kd.C k60 w A n l) (hc : n ≤ c) (hok : okZ l) (hl : n ≤ 8) (h60 : ∀ x ∈ l, x.f1.length ≤ 60) (hT : TabZ w) (he : encCF l = (eb, ee)) :
    Calls Tryd.prog 14 #[.slice A n c] w fun e w' => ∃ v : Value, e = .returned (.tuple #[v, .int .i64 ee]) ∧ Kd.R (Kd.int .u8) 5 w' w.heap.size (fun _ => True) v eb ∧ Below w.heap.size w w' := by
  unfold encCF at he
  split at he
  · rename_i h
    cases he
    exact encC.calls A c n l w hn hr hc hok hl h60 hT h
  · rename_i h
    cases he
    refine (encC.bad A c n l w hn hr hc hok hl (by simpa using h)).mono ?_
    rintro e w' ⟨rfl, hb⟩
    exact ⟨_, rfl, Kd.R_nil _ _ _ _ _, hb⟩
end Go.Proofs.YtbgmnmjokdfmlaaDoor.PA
namespace Go.Proofs.YtbgmnmjokdfmlaaDoor.PA
open Go.RowKit Go.Proofs.YtbgmnmjokdfmlaaDoor.G Go.Proofs.YtbgmnmjokdfmlaaDoorW.PrintWords Go.Proofs.YtbgmnmjokdfmlaaDoorW.PrintLast Go.Proofs.YtbgmnmjokdfmlaaDoorW.PrintMore
set_option linter.unusedVariables false
set_option linter.unusedSimpArgs false
def segN (b : List Int) : Nat := beV 0 (b.take 4)
def seg (b : List Int) : List Int := (b.take (4 + segN b)).drop 4
noncomputable def chunkB (b : List Int) : List S65 × List S54 × Int :=
  if b.length < 4 then ([], [], 0) else
  if b.length - 4 < segN b then ([], [], 0) else
  if (decLb (seg b)).2.2 ≠ 0 then ([], [], 0) else
  if (decF (decLb (seg b)).2.1).2 ≠ 0 ∨ (decF (decLb (seg b)).2.1).1.length = 0 ∨ 20 < (decF (decLb (seg b)).2.1).1.length then ([], [], 0) else
  ((decLb (seg b)).1, (decF (decLb (seg b)).2.1).1, ((4 + segN b : Nat) : Int))
theorem pieceD_mem {b r : List Int} {s : ByteArray} (h : pieceD b = some (s, r)) : ∀ x ∈ r, x ∈ b := by
  cases b with
  | nil => cases h
  | cons a b =>
    simp only [pieceD] at h
    split at h
    · cases h
    · simp only [Option.some.injEq, Prod.mk.injEq] at h
      intro x hx
      rw [← h.2] at hx
      exact List.mem_cons_of_mem _ (List.mem_of_mem_drop hx)
theorem decLN_in {b : List Int} : ∀ {k : Nat} {l : List S65} {r : List Int}, decLN b k = some (l, r) → ∀ x ∈ r, x ∈ b
  | 0, l, r, h => by
    simp only [decLN, Option.some.injEq, Prod.mk.injEq] at h
    obtain ⟨rfl, rfl⟩ := h
    exact fun x hx => hx
  | k + 1, l, r, h => by
    simp only [decLN, Option.bind_eq_some_iff] at h
    obtain ⟨⟨l1, r1⟩, h1, ⟨s, r2⟩, h2, ⟨t, r3⟩, h3, h4⟩ := h
    simp only [Option.some.injEq, Prod.mk.injEq] at h4
    obtain ⟨rfl, rfl⟩ := h4
    exact fun x hx => decLN_in h1 x (pieceD_mem h2 x (pieceD_mem h3 x hx))
theorem decLb_rest (b : List Int) : (∀ x ∈ (decLb b).2.1, x ∈ b) ∧ (decLb b).2.1.length ≤ b.length := by
  cases b with
  | nil => simp [decLb]
  | cons a r =>
    simp only [decLb]
    split
    · simp
    · rename_i p hp
      obtain ⟨l, q⟩ := p
      split
      · exact ⟨fun x hx => List.mem_cons_of_mem _ (decLN_in hp x hx), by have := (decLN_len hp).2; simp; omega⟩
      · simp
theorem okB_sub {a b : List Int} (h : okB b = true) (hs : ∀ x ∈ a, x ∈ b) : okB a = true := okB_iff.2 fun x hx => okB_iff.1 h x (hs x hx)
def ChPost (w : World) (b : List Int) (e : Ending) (w' : World) : Prop := ∃ v1 v2 : Value, e = .returned (.tuple #[v1, v2, .int .i64 (chunkB b).2.2]) ∧ Kd.R k65 65 w' w.heap.size (fun _ => True) v1 (chunkB b).1 ∧ Kd.R k54 54 w' w.heap.size (fun _ => True) v2 (chunkB b).2.1 ∧ Below w.heap.size w w'
theorem ChPost.bad {w w' : World} {b : List Int} (h : chunkB b = ([], [], 0)) (hb : Below w.heap.size w w') : ChPost w b (.returned (.tuple #[.slice none 0 0, .slice none 0 0, .int .i64 0])) w' := by
  refine ⟨_, _, by rw [h], ?_, ?_, hb⟩
  · rw [h]; exact Kd.R_nil _ _ _ _ _
  · rw [h]; exact Kd.R_nil _ _ _ _ _
theorem segN_lt {b : List Int} (h : okB b = true) : segN b < 4294967296 := by
  have := beV_take_lt h 4
  exact this
set_option maxHeartbeats 8000000 in
set_option maxRecDepth 100000 in
theorem chunkB.calls (A : Option Addr) (c n : Nat) (b : List Int) (w : World) (hn : b.length = n) (hr : Kd.C (Kd.int .u8) w A n b) (hc : n ≤ c) (hok : okB b = true) (hlen : n ≤ 1000000) (hseg : n ≤ 2504 ∨ segN b ≤ 2500) (hT : TabZ w) :
    Calls Tryd.prog 29 #[.slice A n c] w (ChPost w b) := by
  subst hn
  by_cases h4 : b.length < 4
  · have HE : Aside0 (chunkB b = ([], [], 0)) := ⟨by rw [chunkB, if_pos h4]⟩
    have h4i : ((b.length : Int) < 4) := by omega
    clear hr hok hseg h4
    go_enter Tryd.func29, Tryd.ntmps29
    go_wp2
    refine bodyPost_ret (results_tmp3 rfl _ _ _) rfl ?_
    exact ChPost.bad HE.out (Below.refl _ _)
  · have h4i : ¬ ((b.length : Int) < 4) := by omega
    have hs32 := segN_lt hok
    have h4l : (b.take 4).length = 4 := by rw [List.length_take]; omega
    have HR := Aside0.mk hr
    have HOK := Aside0.mk hok
    have HT := Aside0.mk hT
    have GET : Aside0 (Calls Tryd.prog 59 #[.slice A 4 c] w fun e w' => e = .returned (.tuple #[.int .u64 ((segN b : Nat) : Int), .bool true]) ∧ Below w.heap.size w w') := ⟨by
      have h1 := crc_Get.calls A c (b.take 4) ((segN b : Nat) : Int) true w (Kd.C_take hr (by omega)) (by omega) (by rw [crc_Get.f, if_pos (okB_sub hok (fun x hx => List.mem_of_mem_take hx)), if_pos (by omega)]; rfl)
      rw [h4l] at h1
      exact h1.mono fun e w' ⟨he, hd⟩ => ⟨he, hd.below⟩⟩
    by_cases hlong : b.length - 4 < segN b
    · have HE : Aside0 (chunkB b = ([], [], 0)) := ⟨by rw [chunkB, if_neg h4, if_pos hlong]⟩
      have hli : ((b.length : Int) - 4 < ((segN b : Nat) : Int)) := by omega
      generalize segN b = N at *
      clear hr hok hseg hT h4 hlong
      go_enter Tryd.func29, Tryd.ntmps29
      go_wp2_with (first | (go_at_call 59; (with_reducible refine GET.out.mono ?_); rintro e w1 ⟨rfl, hb⟩; have HB1 := Aside0.mk hb; clear hb))
      refine bodyPost_ret (results_tmp3 rfl _ _ _) rfl ?_
      exact ChPost.bad HE.out HB1.out
    · have hli : ¬ ((b.length : Int) - 4 < ((segN b : Nat) : Int)) := by omega
      obtain ⟨A2, c2, r, hr2, HC2, hc2, hmid'⟩ := midB A c b 4 (4 + segN b) (by omega) (by omega) hc
      have hmid := hmid' 4 (4 + ((segN b : Nat) : Int)) rfl (by omega)
      have HSG : Aside0 (seg b = r) := ⟨hr2.out.symm⟩
      have hrl : r.length ≤ 2500 := by rw [hr2.out, List.length_drop, List.length_take]; omega
      have HRK : Aside0 (okB r = true) := ⟨okB_sub hok (fun x hx => by rw [hr2.out] at hx; exact List.mem_of_mem_take (List.mem_of_mem_drop hx))⟩
      have DL : Aside0 (∀ W, Below w.heap.size w W → Calls Tryd.prog 60 #[.slice A2 r.length c2] W (DecPost W r)) := ⟨fun W hb => decLb.calls A2 c2 r.length r W rfl (HC2.out W (Kd.C_below HR.out hb)) hc2 HRK.out (by omega)⟩
      obtain ⟨rl, rr, re, hd⟩ : ∃ rl rr re, decLb r = (rl, rr, re) := ⟨_, _, _, rfl⟩
      have HD := Aside0.mk hd
      have HRR : Aside0 (okB rr = true ∧ rr.length ≤ 2500) := ⟨by
        have h1 := decLb_rest r
        rw [hd] at h1
        exact ⟨okB_sub HRK.out h1.1, by have := h1.2; simp only at this; omega⟩⟩
      have HN4 : Aside0 (segN b < 4294967296) := ⟨hs32⟩
      have HCB : Aside0 (chunkB b = if re ≠ 0 then ([], [], 0) else if (decF rr).2 ≠ 0 ∨ (decF rr).1.length = 0 ∨ 20 < (decF rr).1.length then ([], [], 0) else (rl, (decF rr).1, ((4 + segN b : Nat) : Int))) := ⟨by rw [chunkB, if_neg h4, if_neg hlong, HSG.out, hd]⟩
      clear hr2 hmid' hok hseg hT h4 hlong hr hd
      generalize segN b = N at *
      by_cases hre : re = 0
      · subst hre
        obtain ⟨sl, se, hs⟩ : ∃ sl se, decF rr = (sl, se) := ⟨_, _, rfl⟩
        have HDE : Aside0 (∀ A' c' W, Kd.C (Kd.int .u8) W A' rr.length rr → rr.length ≤ c' → Below w.heap.size w W → Calls Tryd.prog 61 #[.slice A' rr.length c'] W fun e w' => ∃ v : Value, e = .returned (.tuple #[v, .int .i64 se]) ∧ Kd.R k54 54 w' W.heap.size (fun _ => True) v sl ∧ Below W.heap.size W w') := ⟨fun A' c' W h1 h2 hb => codec_Decode.calls_at A' c' rr W sl se rfl h1 h2 HRR.out.1 HRR.out.2 (HT.out.below hb) hs⟩
        rw [hs] at HCB
        simp only [ne_eq, not_true_eq_false, if_false] at HCB
        clear hs
        by_cases hs0 : se = 0
        · subst hs0
          have e0 : ((0 : Int) != 0) = false := by decide
          by_cases hl0 : sl.length = 0
          · have HE : Aside0 (chunkB b = ([], [], 0)) := ⟨by rw [HCB.out, if_pos (.inr (.inl hl0))]⟩
            have hl0i : ((sl.length : Int) == 0) = true := beq_iff_eq.2 (by omega)
            clear HCB hl0
            go_enter Tryd.func29, Tryd.ntmps29
            go_wp2_with (first | (go_at_call 59; (with_reducible refine GET.out.mono ?_); rintro e w1 ⟨rfl, hb⟩; have HB1 := Aside0.mk hb; clear hb) | (go_at_call 60; (with_reducible refine (DL.out _ HB1.out).mono ?_); rintro e w2 ⟨v1, v2, rfl, h1, h2, hb⟩; rw [HD.out] at h1 h2 ⊢; dsimp only at h1 h2 ⊢; obtain ⟨A8, c8, rfl⟩ := Kd.R_slice h2; have HV1 := Aside0.mk h1; have HV2 := Aside0.mk h2; have HB2 := Aside0.mk (below_step HB1.out hb); clear hb h1 h2) | (go_at_call 61; (with_reducible refine (HDE.out A8 c8 _ (Kd.R_reads' HV2.out).2.2 (Kd.R_reads' HV2.out).2.1 HB2.out).mono ?_); rintro e w3 ⟨v3, rfl, h3, hb⟩; obtain ⟨A9, c9, rfl⟩ := Kd.R_slice h3; have HV3 := Aside0.mk h3; have HV13 := Aside0.mk (Kd.R_below HV1.out hb); have HB3 := Aside0.mk (below_step HB2.out hb); clear hb h3))
            refine bodyPost_ret (results_tmp3 rfl _ _ _) rfl ?_
            exact ChPost.bad HE.out HB3.out
          · have hl0i : ((sl.length : Int) == 0) = false := beq_eq_false_iff_ne.2 (by omega)
            by_cases hl2 : 20 < sl.length
            · have HE : Aside0 (chunkB b = ([], [], 0)) := ⟨by rw [HCB.out, if_pos (.inr (.inr hl2))]⟩
              have hl2i : (20 : Int) < (sl.length : Int) := by omega
              clear HCB hl0 hl2
              go_enter Tryd.func29, Tryd.ntmps29
              go_wp2_with (first | (go_at_call 59; (with_reducible refine GET.out.mono ?_); rintro e w1 ⟨rfl, hb⟩; have HB1 := Aside0.mk hb; clear hb) | (go_at_call 60; (with_reducible refine (DL.out _ HB1.out).mono ?_); rintro e w2 ⟨v1, v2, rfl, h1, h2, hb⟩; rw [HD.out] at h1 h2 ⊢; dsimp only at h1 h2 ⊢; obtain ⟨A8, c8, rfl⟩ := Kd.R_slice h2; have HV1 := Aside0.mk h1; have HV2 := Aside0.mk h2; have HB2 := Aside0.mk (below_step HB1.out hb); clear hb h1 h2) | (go_at_call 61; (with_reducible refine (HDE.out A8 c8 _ (Kd.R_reads' HV2.out).2.2 (Kd.R_reads' HV2.out).2.1 HB2.out).mono ?_); rintro e w3 ⟨v3, rfl, h3, hb⟩; obtain ⟨A9, c9, rfl⟩ := Kd.R_slice h3; have HV3 := Aside0.mk h3; have HV13 := Aside0.mk (Kd.R_below HV1.out hb); have HB3 := Aside0.mk (below_step HB2.out hb); clear hb h3))
              refine bodyPost_ret (results_tmp3 rfl _ _ _) rfl ?_
              exact ChPost.bad HE.out HB3.out
            · have HE : Aside0 (chunkB b = (rl, sl, ((4 + N : Nat) : Int))) := ⟨by rw [HCB.out, if_neg (by omega)]⟩
              have hl2i : ¬ (20 : Int) < (sl.length : Int) := by omega
              clear HCB hl0 hl2
              go_enter Tryd.func29, Tryd.ntmps29
              go_wp2_with (first | (go_at_call 59; (with_reducible refine GET.out.mono ?_); rintro e w1 ⟨rfl, hb⟩; have HB1 := Aside0.mk hb; clear hb) | (go_at_call 60; (with_reducible refine (DL.out _ HB1.out).mono ?_); rintro e w2 ⟨v1, v2, rfl, h1, h2, hb⟩; rw [HD.out] at h1 h2 ⊢; dsimp only at h1 h2 ⊢; obtain ⟨A8, c8, rfl⟩ := Kd.R_slice h2; have HV1 := Aside0.mk h1; have HV2 := Aside0.mk h2; have HB2 := Aside0.mk (below_step HB1.out hb); clear hb h1 h2) | (go_at_call 61; (with_reducible refine (HDE.out A8 c8 _ (Kd.R_reads' HV2.out).2.2 (Kd.R_reads' HV2.out).2.1 HB2.out).mono ?_); rintro e w3 ⟨v3, rfl, h3, hb⟩; obtain ⟨A9, c9, rfl⟩ := Kd.R_slice h3; have HV3 := Aside0.mk h3; have HV13 := Aside0.mk (Kd.R_below HV1.out hb); have HB3 := Aside0.mk (below_step HB2.out hb); clear hb h3))
              refine bodyPost_ret (results_tmp3 rfl _ _ _) rfl ?_
              refine ⟨_, _, by rw [HE.out]; dsimp only; congr 4 <;> omega, ?_, ?_, HB3.out⟩
              · rw [HE.out]
                exact Kd.R_lower HV13.out (by have := HB1.out.size; omega)
              · rw [HE.out]
                exact Kd.R_lower HV3.out (by have := HB2.out.size; omega)
        · have HE : Aside0 (chunkB b = ([], [], 0)) := ⟨by rw [HCB.out, if_pos (.inl hs0)]⟩
          have hs0i : (se == 0) = false := beq_eq_false_iff_ne.2 hs0
          clear HCB
          go_enter Tryd.func29, Tryd.ntmps29
          go_wp2_with (first | (go_at_call 59; (with_reducible refine GET.out.mono ?_); rintro e w1 ⟨rfl, hb⟩; have HB1 := Aside0.mk hb; clear hb) | (go_at_call 60; (with_reducible refine (DL.out _ HB1.out).mono ?_); rintro e w2 ⟨v1, v2, rfl, h1, h2, hb⟩; rw [HD.out] at h1 h2 ⊢; dsimp only at h1 h2 ⊢; obtain ⟨A8, c8, rfl⟩ := Kd.R_slice h2; have HV1 := Aside0.mk h1; have HV2 := Aside0.mk h2; have HB2 := Aside0.mk (below_step HB1.out hb); clear hb h1 h2) | (go_at_call 61; (with_reducible refine (HDE.out A8 c8 _ (Kd.R_reads' HV2.out).2.2 (Kd.R_reads' HV2.out).2.1 HB2.out).mono ?_); rintro e w3 ⟨v3, rfl, h3, hb⟩; obtain ⟨A9, c9, rfl⟩ := Kd.R_slice h3; have HV3 := Aside0.mk h3; have HV13 := Aside0.mk (Kd.R_below HV1.out hb); have HB3 := Aside0.mk (below_step HB2.out hb); clear hb h3))
          refine bodyPost_ret (results_tmp3 rfl _ _ _) rfl ?_
          exact ChPost.bad HE.out HB3.out
      · have HE : Aside0 (chunkB b = ([], [], 0)) := ⟨by rw [HCB.out, if_pos hre]⟩
        have hrei : (re == 0) = false := beq_eq_false_iff_ne.2 hre
        clear HCB hre
        go_enter Tryd.func29, Tryd.ntmps29
        go_wp2_with (first | (go_at_call 59; (with_reducible refine GET.out.mono ?_); rintro e w1 ⟨rfl, hb⟩; have HB1 := Aside0.mk hb; clear hb) | (go_at_call 60; (with_reducible refine (DL.out _ HB1.out).mono ?_); rintro e w2 ⟨v1, v2, rfl, h1, h2, hb⟩; rw [HD.out] at h1 h2 ⊢; dsimp only at h1 h2 ⊢; have HV1 := Aside0.mk h1; have HV2 := Aside0.mk h2; have HB2 := Aside0.mk (below_step HB1.out hb); clear hb h1 h2))
        refine bodyPost_ret (results_tmp3 rfl _ _ _) rfl ?_
        exact ChPost.bad HE.out HB2.out
end Go.Proofs.YtbgmnmjokdfmlaaDoor.PA
namespace Go.Proofs.YtbgmnmjokdfmlaaDoor.PA
open Go.RowKit Go.Proofs.YtbgmnmjokdfmlaaDoor.G Go.Proofs.YtbgmnmjokdfmlaaDoorW.PrintWords Go.Proofs.YtbgmnmjokdfmlaaDoorW.PrintLast Go.Proofs.YtbgmnmjokdfmlaaDoorW.PrintMore
set_option linter.unusedVariables false
set_option linter.unusedSimpArgs false
theorem strOfNums_bytes (s : ByteArray) : strOfNums (bytesOf s) = s := by
  apply ByteArray.ext
  apply Array.ext'
  simp [strOfNums, bytesOf, Function.comp_def]
theorem pieceD_enc (s : ByteArray) (y : List Int) : pieceD (encT s ++ y) = some (s, y) := by
  have hl : (bytesOf s).length = s.size := bytesOf_length s
  simp only [encT, List.cons_append, pieceD]
  rw [Int.toNat_natCast, if_neg (by rw [List.length_append, hl]; omega), ← hl, List.take_left', List.drop_left', strOfNums_bytes]
  · rfl
  · rfl
theorem decLN_enc (l : List S65) (r : List Int) : ∀ k, k ≤ l.length → decLN (l.flatMap encX ++ r) k = some (l.take k, (l.drop k).flatMap encX ++ r)
  | 0, _ => by simp [decLN]
  | k + 1, h => by
    rw [decLN, decLN_enc l r k (by omega), List.drop_eq_getElem_cons (by omega : k < l.length), List.take_succ_eq_append_getElem (by omega : k < l.length)]
    simp only [Option.bind_some, List.flatMap_cons, encX, List.append_assoc]
    rw [pieceD_enc]
    simp only [Option.bind_some]
    rw [pieceD_enc]
    rfl
theorem decLb_enc (l : List S65) (r : List Int) (h : canL l = true) : decLb (encLb l ++ r) = (l, r, 0) := by
  have h1 := decLN_enc l r l.length (Nat.le_refl _)
  rw [List.take_length, List.drop_length] at h1
  simp only [List.flatMap_nil, List.nil_append] at h1
  simp only [encLb, List.cons_append, decLb, Int.toNat_natCast]
  rw [h1]
  simp only [h, if_true]
theorem segN_enc (u e r : List Int) (h : u.length + e.length < 4294967296) : segN (beL (u.length + e.length) 4 ++ (u ++ e) ++ r) = u.length + e.length := by
  have h4 : (beL (u.length + e.length) 4).length = 4 := beL_length _ _
  rw [segN, List.append_assoc, List.take_append_of_le_length (by omega), List.take_of_length_le (by omega), beV_beL, Nat.zero_mul, Nat.zero_add]
  exact Nat.mod_eq_of_lt h
theorem seg_enc (u e r : List Int) (h : u.length + e.length < 4294967296) : seg (beL (u.length + e.length) 4 ++ (u ++ e) ++ r) = u ++ e := by
  have h4 : (beL (u.length + e.length) 4).length = 4 := beL_length _ _
  rw [seg, segN_enc u e r h, List.take_append_of_le_length (by simp only [List.length_append]; omega), List.take_of_length_le (by simp only [List.length_append]; omega), List.drop_left' h4]
theorem chunkB_part (l : List S65) (q : List S54) (r : List Int) (hl : canL l = true) (hq : canS q = true) (hok : ∀ x ∈ q, okS x) (h0 : 1 ≤ q.length) (h20 : q.length ≤ 20) :
    chunkB (encPart (encLb l) q ++ r) = (l, q, (((encPart (encLb l) q).length : Nat) : Int)) := by
  have hu := encLb_len hl
  have he := encL_len h20 hok hq
  have h4 : (beL ((encLb l).length + (encL q).length) 4).length = 4 := beL_length _ _
  have hd := (dec_enc q hok (by omega) hq).2.1
  rw [encPart, chunkB, if_neg (by simp only [List.length_append]; omega), segN_enc _ _ _ (by omega), if_neg (by simp only [List.length_append]; omega), seg_enc _ _ _ (by omega), decLb_enc l (encL q) hl]
  simp only [ne_eq, not_true_eq_false, if_false, hd]
  split
  · rename_i hx
    simp only [not_true_eq_false, false_or] at hx
    omega
  · simp only [List.length_append, h4]
theorem encLb_okB {l : List S65} (h : canL l = true) : okB (encLb l) = true := by
  have hp := canL_parts h
  have hb : ∀ s : ByteArray, ∀ x ∈ bytesOf s, 0 ≤ x ∧ x < 256 := fun s x hx => by
    simp only [bytesOf, List.mem_map] at hx
    obtain ⟨c, _, rfl⟩ := hx
    exact ⟨by omega, by have := c.toNat_lt; omega⟩
  have ht : ∀ s : ByteArray, s.size < 256 → ∀ x ∈ encT s, 0 ≤ x ∧ x < 256 := fun s hs x hx => by
    rcases List.mem_cons.1 hx with rfl | hx
    · omega
    · exact hb s x hx
  refine okB_iff.2 fun x hx => ?_
  rcases List.mem_cons.1 hx with rfl | hx
  · have := hp.2.1
    omega
  · obtain ⟨y, hy, hx⟩ := List.mem_flatMap.1 hx
    obtain ⟨k, hk, rfl⟩ := List.mem_iff_getElem.1 hy
    have hs := okAt_sizes (hp.2.2 k hk)
    have e : rd_T65 l (k : Int) = l[k] := by simp [rd_T65, List.getD_eq_getElem?_getD, List.getElem?_eq_getElem hk]
    rw [e] at hs
    rcases List.mem_append.1 hx with hx | hx
    · exact ht _ (by omega) x hx
    · exact ht _ (by omega) x hx
theorem beL_okB (N i : Nat) : okB (beL N i) = true := okB_iff.2 fun x hx => beL_byte N i x hx
theorem okB_app {a b : List Int} (ha : okB a = true) (hb : okB b = true) : okB (a ++ b) = true := okB_iff.2 fun x hx => (List.mem_append.1 hx).elim (okB_iff.1 ha x) (okB_iff.1 hb x)
theorem encPart_okB {l : List S65} {q : List S54} (hl : canL l = true) (hq : canS q = true) (hok : ∀ x ∈ q, okS x) (h20 : q.length ≤ 20) : okB (encPart (encLb l) q) = true :=
  okB_app (beL_okB _ _) (okB_app (encLb_okB hl) (encL_ok q (by omega) hok hq))
end Go.Proofs.YtbgmnmjokdfmlaaDoor.PA
namespace Go.Proofs.YtbgmnmjokdfmlaaDoor.PA
open Go.RowKit Go.Proofs.YtbgmnmjokdfmlaaDoor.G Go.Proofs.YtbgmnmjokdfmlaaDoorW.PrintWords Go.Proofs.YtbgmnmjokdfmlaaDoorW.PrintLast Go.Proofs.YtbgmnmjokdfmlaaDoorW.PrintMore
set_option linter.unusedVariables false
set_option linter.unusedSimpArgs false
set_option maxHeartbeats 800000 in
theorem CloneB.calls (A0 : Option Addr) (c0 : Nat) (l0 : List Int) (n : Nat) (w : World) (hn : l0.length = n) (hr0 : Kd.C (Kd.int .u8) w A0 l0.length l0) (hc0 : l0.length ≤ c0) (hlen : l0.length ≤ 1000000) :
    Calls Tryd.prog 19 #[.slice A0 n c0] w fun e w' => ∃ v0_ : Value, e = .returned (v0_) ∧ Kd.R (Kd.int .u8) 5 w' w.heap.size (fun _ => True) v0_ l0 ∧ Below w.heap.size w w' := by
  subst hn
  have HR := Aside0.mk hr0
  have HL := Aside0.mk hlen
  have hnil := fun W n c => Lib.run_eql_slice_nil (P := Tryd.prog) W 22 5 A0 n c 0 0 Tryd.underlying22
  clear hr0 hc0 hlen
  cases A0 with
  | none =>
    have h0 : l0 = [] := by
      rcases Nat.eq_zero_or_pos l0.length with h0 | h0
      · exact List.eq_nil_of_length_eq_zero h0
      · obtain ⟨ad, e, _⟩ := HR.out.2.2 h0
        cases e
    subst h0
    go_enter Tryd.func19, Tryd.ntmps19
    go_wp2
    go_ret
    exact ⟨_, rfl, Kd.R_nil _ _ _ _ _, Below.refl _ _⟩
  | some ad =>
    go_enter Tryd.func19, Tryd.ntmps19
    have hE := Aside0.mk (R_empty (Kd.int .u8) 5 w.heap.size w (fun _ => True) (Nat.le_refl _) trivial)
    go_wp2_with ((with_reducible refine gate_dst (N := 7) rfl ?_); refine Kd.R_append_row (Value.int .u8) 0 (h1 := fun _ => rfl) w.heap.size rfl (.tmp 5) (.tmp 6) 22 5 (.int .u8 0) 1 rfl Tryd.underlying22 infoU8 rfl (by decide) _ [] l0 (some ad) l0.length c0 (fun _ => True) rfl rfl (fun _ _ => trivial) hE.out (Kd.C_below HR.out (below_alloc (Below.refl _ _) _)) (below_alloc (Below.refl _ _) _) ?hb ?hl ?_; (case hb => simp); (case hl => (have := HL.out; simp; omega)); intro v1 w1 hR1 hB1 hg_ ho_; rw [List.nil_append] at hR1; have HR1 := Aside0.mk hR1; have HB1 := Aside0.mk hB1; clear hR1 hB1 hg_ ho_)
    go_ret
    exact ⟨_, rfl, HR1.out, HB1.out⟩
end Go.Proofs.YtbgmnmjokdfmlaaDoor.PA
namespace Go.Proofs.YtbgmnmjokdfmlaaDoor.PA
open Go.RowKit Go.Proofs.YtbgmnmjokdfmlaaDoor.G Go.Proofs.YtbgmnmjokdfmlaaDoorW.PrintWords Go.Proofs.YtbgmnmjokdfmlaaDoorW.PrintLast Go.Proofs.YtbgmnmjokdfmlaaDoorW.PrintMore
set_option linter.unusedVariables false
set_option linter.unusedSimpArgs false
def CU (W : World) (g : Nat) (on : Bool) (v : Value) (q : Int) (br : Bool) : Prop := W.heap[g]? = some (.cells #[.bool on, v, .int .i64 q, .bool br] 25 (0, 0))
theorem CU.below {w w1 : World} {g : Nat} {on : Bool} {v : Value} {q : Int} {br : Bool} (h : CU w g on v q br) (hb : Below w.heap.size w w1) : CU w1 g on v q br := blk_below h hb
def noEntry : Value := .tuple #[.agg #[.slice none 0 0, .int .i64 0, .int .i64 0, .int .i64 0, .int .i64 0], .slice none 0 0, .bool false]
set_option maxHeartbeats 4000000 in
set_option maxRecDepth 100000 in
theorem next_nil.calls (W : World) : Calls Tryd.prog 9 #[.pointer none] W fun e w' => e = .returned noEntry ∧ Below W.heap.size W w' := by
  go_enter Tryd.func9, Tryd.ntmps9
  go_wp2
  refine bodyPost_ret (v := noEntry) (by simp [results, Tryd.f9, go_sem, noEntry]) rfl ?_
  exact ⟨rfl, below_alloc (Below.refl _ _) _⟩
set_option maxHeartbeats 4000000 in
set_option maxRecDepth 100000 in
theorem next_off.calls (W : World) (g : Nat) (v : Value) (q : Int) (br : Bool) (h : CU W g false v q br) : Calls Tryd.prog 9 #[.pointer (some ⟨g, 0, none⟩)] W fun e w' => e = .returned noEntry ∧ Below W.heap.size W w' := by
  have b0 := (blk_cell h 0).trans rfl
  have b1 := (blk_cell h 1).trans rfl
  have b3 := (blk_cell h 3).trans rfl
  have hlt : g < W.heap.size := blk_lt h
  clear h
  go_enter Tryd.func9, Tryd.ntmps9
  go_wp2
  refine bodyPost_ret (v := noEntry) (by simp [results, Tryd.f9, go_sem, noEntry]) rfl ?_
  exact ⟨rfl, below_alloc (Below.refl _ _) _⟩
set_option maxHeartbeats 4000000 in
set_option maxRecDepth 100000 in
theorem next_broken.calls (W : World) (g : Nat) (v : Value) (q : Int) (h : CU W g true v q true) : Calls Tryd.prog 9 #[.pointer (some ⟨g, 0, none⟩)] W fun e w' => e = .returned noEntry ∧ Below W.heap.size W w' := by
  have b0 := (blk_cell h 0).trans rfl
  have b1 := (blk_cell h 1).trans rfl
  have b3 := (blk_cell h 3).trans rfl
  have hlt : g < W.heap.size := blk_lt h
  clear h
  go_enter Tryd.func9, Tryd.ntmps9
  go_wp2
  refine bodyPost_ret (v := noEntry) (by simp [results, Tryd.f9, go_sem, noEntry]) rfl ?_
  exact ⟨rfl, below_alloc (Below.refl _ _) _⟩
set_option maxHeartbeats 4000000 in
set_option maxRecDepth 100000 in
theorem next_end.calls (W : World) (g : Nat) (A : Option Addr) (c : Nat) (q : Int) (h : CU W g true (.slice A 0 c) q false) : Calls Tryd.prog 9 #[.pointer (some ⟨g, 0, none⟩)] W fun e w' => e = .returned noEntry ∧ Below W.heap.size W w' := by
  have b0 := (blk_cell h 0).trans rfl
  have b1 := (blk_cell h 1).trans rfl
  have b3 := (blk_cell h 3).trans rfl
  have hlt : g < W.heap.size := blk_lt h
  clear h
  go_enter Tryd.func9, Tryd.ntmps9
  go_wp2
  refine bodyPost_ret (v := noEntry) (by simp [results, Tryd.f9, go_sem, noEntry]) rfl ?_
  exact ⟨rfl, below_alloc (Below.refl _ _) _⟩
set_option maxHeartbeats 4000000 in
set_option maxRecDepth 100000 in
theorem err_nil.calls (W : World) : Calls Tryd.prog 10 #[.pointer none] W fun e w' => e = .returned (.int .i64 2) ∧ Below W.heap.size W w' := by
  go_enter Tryd.func10, Tryd.ntmps10
  go_wp2
  go_ret
  exact ⟨rfl, Below.refl _ _⟩
set_option maxHeartbeats 4000000 in
set_option maxRecDepth 100000 in
theorem err_off.calls (W : World) (g : Nat) (v : Value) (q : Int) (br : Bool) (h : CU W g false v q br) : Calls Tryd.prog 10 #[.pointer (some ⟨g, 0, none⟩)] W fun e w' => e = .returned (.int .i64 2) ∧ Below W.heap.size W w' := by
  have b0 := (blk_cell h 0).trans rfl
  have b3 := (blk_cell h 3).trans rfl
  clear h
  go_enter Tryd.func10, Tryd.ntmps10
  go_wp2
  go_ret
  exact ⟨rfl, Below.refl _ _⟩
set_option maxHeartbeats 4000000 in
set_option maxRecDepth 100000 in
theorem err_broken.calls (W : World) (g : Nat) (v : Value) (q : Int) (h : CU W g true v q true) : Calls Tryd.prog 10 #[.pointer (some ⟨g, 0, none⟩)] W fun e w' => e = .returned (.int .i64 5) ∧ Below W.heap.size W w' := by
  have b0 := (blk_cell h 0).trans rfl
  have b3 := (blk_cell h 3).trans rfl
  clear h
  go_enter Tryd.func10, Tryd.ntmps10
  go_wp2
  go_ret
  exact ⟨rfl, Below.refl _ _⟩
set_option maxHeartbeats 4000000 in
set_option maxRecDepth 100000 in
theorem err_ok.calls (W : World) (g : Nat) (v : Value) (q : Int) (h : CU W g true v q false) : Calls Tryd.prog 10 #[.pointer (some ⟨g, 0, none⟩)] W fun e w' => e = .returned (.int .i64 0) ∧ Below W.heap.size W w' := by
  have b0 := (blk_cell h 0).trans rfl
  have b3 := (blk_cell h 3).trans rfl
  clear h
  go_enter Tryd.func10, Tryd.ntmps10
  go_wp2
  go_ret
  exact ⟨rfl, Below.refl _ _⟩
end Go.Proofs.YtbgmnmjokdfmlaaDoor.PA
namespace Go.Proofs.YtbgmnmjokdfmlaaDoor.PA
open Go.RowKit Go.Proofs.YtbgmnmjokdfmlaaDoor.G Go.Proofs.YtbgmnmjokdfmlaaDoorW.PrintWords Go.Proofs.YtbgmnmjokdfmlaaDoorW.PrintLast Go.Proofs.YtbgmnmjokdfmlaaDoorW.PrintMore
set_option linter.unusedVariables false
set_option linter.unusedSimpArgs false
def atC (q : Int) : Int := min (max q 0) 2147483647
set_option maxHeartbeats 4000000 in
set_option maxRecDepth 100000 in
theorem open.calls (A : Option Addr) (c n : Nat) (b : List Int) (q : Int) (w : World) (hn : b.length = n) (hr : Kd.C (Kd.int .u8) w A b.length b) (hc : b.length ≤ c) (hlen : b.length ≤ 1000000) :
    Calls Tryd.prog 11 #[.slice A n c, .int .i64 q] w fun e w' => ∃ (g : Nat) (v : Value), e = .returned (.pointer (some ⟨g, 0, none⟩)) ∧ CU w' g true v (atC q) false ∧ Kd.R (Kd.int .u8) 5 w' w.heap.size (fun _ => True) v b ∧ w.heap.size ≤ g ∧ Below w.heap.size w w' := by
  have CL := Aside0.mk (CloneB.calls A c b n w hn hr hc hlen)
  clear hr hc hlen hn
  go_enter Tryd.func11, Tryd.ntmps11
  go_wp2_with (first | (go_at_call 114; (with_reducible refine CL.out.mono ?_); rintro e w1 ⟨v1, rfl, hr1, hb⟩; have HR1 := Aside0.mk hr1; have HB1 := Aside0.mk hb; clear hb hr1) | (go_at_call 19; (with_reducible refine CL.out.mono ?_); rintro e w1 ⟨v1, rfl, hr1, hb⟩; obtain ⟨A9, c9, rfl⟩ := Kd.R_slice hr1; have HR1 := Aside0.mk hr1; have HB1 := Aside0.mk hb; clear hb hr1))
  go_ret
  exact ⟨_, _, rfl, blk_new _ _, Kd.R_below HR1.out (below_alloc (Below.refl _ _) _), HB1.out.size, below_alloc HB1.out _⟩
end Go.Proofs.YtbgmnmjokdfmlaaDoor.PA
namespace Go.Proofs.YtbgmnmjokdfmlaaDoor.PA
open Go.RowKit Go.Proofs.YtbgmnmjokdfmlaaDoor.G Go.Proofs.YtbgmnmjokdfmlaaDoorW.PrintWords Go.Proofs.YtbgmnmjokdfmlaaDoorW.PrintLast Go.Proofs.YtbgmnmjokdfmlaaDoorW.PrintMore
set_option linter.unusedVariables false
set_option linter.unusedSimpArgs false
theorem add_block (a : Addr) (k : Nat) : (a.add k).block = a.block := by unfold Addr.add; split <;> rfl
theorem cutB2 (A : Option Addr) (c : Nat) (xs : List Int) (m : Nat) (hm : m ≤ xs.length) (hc : xs.length ≤ c) :
    ∃ (A' : Option Addr) (c' : Nat) (r : List Int), Aside0 (r = xs.drop m) ∧ Aside0 (∀ w : World, Kd.C (Kd.int .u8) w A xs.length xs → Kd.C (Kd.int .u8) w A' r.length r) ∧ r.length ≤ c' ∧ Aside0 (∀ a', A' = some a' → ∃ a, A = some a ∧ a'.block = a.block) ∧
      ∀ i : Int, i = (m : Int) → ∀ W : World, (Instr.slice 22 (.slice A xs.length c) (some (.int .i64 i)) none none).run Tryd.prog W = .ok (.slice A' r.length c') W := by
  obtain ⟨i0, hi, hsz⟩ := infoN5
  refine ⟨if c = m then A else A.map (·.add (m * (Kd.int .u8).sz)), c - m, xs.drop m, ⟨rfl⟩, ⟨fun w h => Kd.C_drop h hm hc⟩, by rw [List.length_drop]; omega, ⟨fun a' h => ?_⟩, fun i hi' W => ?_⟩
  · split at h
    · exact ⟨a', h, rfl⟩
    · obtain ⟨a, ha, rfl⟩ := Option.map_eq_some_iff.1 h
      exact ⟨a, ha, add_block a _⟩
  · subst hi'
    have hu := Tryd.underlying22
    have hel : Tryd.prog.elem 22 = 5 := by simp [Program.elem, hu]
    have hu' : Tryd.prog.underlying 22 = some (.slice (Tryd.prog.elem 22)) := by rw [hel]; exact hu
    rw [run_slice_l W 22 A xs.length c hu' .i64 (m : Int) (by omega) (by omega), hel]
    simp only [sizeOf, typeInfo, Sem.run_bind, hi, sliced, Result.andThen, hsz, Int.toNat_natCast, List.length_drop]
    cases A <;> simp [go_sem, hi, hsz, Kd.int, Kd.scalar]
theorem C_far {W : World} {A : Option Addr} {n : Nat} {xs : List Int} (h : Kd.C (Kd.int .u8) W A n xs) {p : Addr} (hne : ∀ a, A = some a → a.block ≠ p.block) (u : Value) : Kd.C (Kd.int .u8) (W.setCell p u) A n xs := by
  refine ⟨h.1, h.2.1, fun h0 => ?_⟩
  obtain ⟨ad, hA, hj⟩ := h.2.2 h0
  refine ⟨ad, hA, fun j q hq => ?_⟩
  obtain ⟨cs, h1, h2, h3⟩ := hj j q hq
  exact ⟨cs, h1, h2, fun i v hv => (World.cell?_of_block (Below.heap_setCell W p u _ (by have := hne ad hA; rwa [add_block]))).trans (h3 i v hv)⟩
theorem next_res (tmps : Array Value) (W : World) (r : Nat) (x0 x1 x2 x3 x4 : Value) (h : W.heap[r]? = some (.cells #[x0, x1, x2, x3, x4] 29 (0, 0))) (h2 : tmps.getD 2 undef = .pointer (some ⟨r, 0, none⟩)) :
    (results Tryd.f9 tmps).run Tryd.prog W = .ok (.tuple #[.agg #[x0, x1, x2, x3, x4], tmps.getD 3 undef, tmps.getD 4 undef]) W := by
  have c0 := (blk_cell h 0).trans rfl
  have c1 := (blk_cell h 1).trans rfl
  have c2 := (blk_cell h 2).trans rfl
  have c3 := (blk_cell h 3).trans rfl
  have c4 := (blk_cell h 4).trans rfl
  simp at h2
  simp [results, Tryd.f9, go_sem, h2, c0, c1, c2, c3, c4]
theorem R_drew2 {α : Type} {d : Kd α} {e base B g : Nat} {ok : Nat → Prop} {W : World} {v x y : Value} {i j : Nat} {xs : List α} (hok : ∀ k, ok k → k ≠ g) (hb : B ≤ base) (h : Kd.R d e W base ok v xs) : Kd.R d e ((W.setCell ⟨g, i, none⟩ x).setCell ⟨g, j, none⟩ y).drew B (fun _ => True) v xs :=
  Kd.R_mono (Kd.R_lower (Kd.R_drew (Kd.R_far (Kd.R_far h (p := ⟨g, i, none⟩) hok x) (p := ⟨g, j, none⟩) hok y)) hb) (fun _ _ => trivial)
theorem But.up {O B : Nat} {a b : World} (h : But O B a b) {p : Addr} (hp : B ≤ p.block) (v : Value) : But O B a (b.setCell p v) :=
  ⟨h.os, h.tape, h.output, by simpa using h.size, fun k hk hn => (Below.heap_setCell b p v k (by omega)).trans (h.block k hk hn)⟩
theorem cell_in {w : World} {a : Addr} {v : Value} (h : w.cell? a = some v) : a.block < w.heap.size := by
  rcases Nat.lt_or_ge a.block w.heap.size with h1 | h1
  · exact h1
  · simp [World.cell?, Array.getElem?_eq_none h1] at h
theorem C_lt {w : World} {A : Option Addr} {b : List Int} (h : Kd.C (Kd.int .u8) w A b.length b) (h0 : 0 < b.length) (a : Addr) (ha : A = some a) : a.block < w.heap.size := by
  obtain ⟨ad, rfl, hc⟩ := cell0 h h0
  cases ha
  exact cell_in hc
theorem CU.set3 {W : World} {g : Nat} {on : Bool} {v : Value} {q : Int} {br : Bool} (h : CU W g on v q br) (x : Bool) : CU (W.setCell ⟨g, 3, none⟩ (.bool x)) g on v q x := blk_put h 3 _ rfl
theorem CU.set1 {W : World} {g : Nat} {on : Bool} {v : Value} {q : Int} {br : Bool} (h : CU W g on v q br) (x : Value) : CU (W.setCell ⟨g, 1, none⟩ x) g on x q br := blk_put h 1 _ rfl
theorem CU.set2 {W : World} {g : Nat} {on : Bool} {v : Value} {q : Int} {br : Bool} (h : CU W g on v q br) (x : Int) : CU (W.setCell ⟨g, 2, none⟩ (.int .i64 x)) g on v x br := blk_put h 2 _ rfl
set_option maxHeartbeats 4000000 in
set_option maxRecDepth 100000 in
theorem next.bad (g : Nat) (A : Option Addr) (c n : Nat) (b : List Int) (q : Int) (w : World) (hcu : CU w g true (.slice A n c) q false) (hn : b.length = n) (hC : Kd.C (Kd.int .u8) w A n b) (hc : n ≤ c) (hok : okB b = true) (h0 : 0 < n) (hlen : n ≤ 1000000) (hseg : n ≤ 2504 ∨ segN b ≤ 2500) (hT : TabZ w) (hE : chunkB b = ([], [], 0)) :
    Calls Tryd.prog 9 #[.pointer (some ⟨g, 0, none⟩)] w fun e w' => e = .returned noEntry ∧ CU w' g true (.slice A n c) q true ∧ But g w.heap.size w w' := by
  subst hn
  have HCU := Aside0.mk hcu
  have HC := Aside0.mk hC
  have CH := Aside0.mk (fun W (hb : Below w.heap.size w W) => chunkB.calls A c b.length b W rfl (Kd.C_below hC hb) hc hok hlen hseg (hT.below hb))
  have b0 := (blk_cell hcu 0).trans rfl
  have b1 := (blk_cell hcu 1).trans rfl
  have b2 := (blk_cell hcu 2).trans rfl
  have b3 := (blk_cell hcu 3).trans rfl
  have hgl : g < w.heap.size := blk_lt hcu
  have hb0 : ((b.length : Int) == 0) = false := beq_eq_false_iff_ne.2 (by omega)
  have HE := Aside0.mk hE
  have HR0 := Aside0.mk (blk_new w (.cells #[.slice none 0 0, .int .i64 0, .int .i64 0, .int .i64 0, .int .i64 0] 29 (0, 0)))
  have HB0 := Aside0.mk (below_alloc (Below.refl w.heap.size w) (.cells #[.slice none 0 0, .int .i64 0, .int .i64 0, .int .i64 0, .int .i64 0] 29 (0, 0)))
  clear hcu hC hc hok h0 hseg hT hE
  go_enter Tryd.func9, Tryd.ntmps9
  go_wp2_with (first | (go_at_call 29; (with_reducible refine (CH.out _ HB0.out).mono ?_); rintro e w1 ⟨v1, v2, rfl, h1, h2, hb⟩; rw [HE.out] at h1 h2 ⊢; dsimp only at h1 h2 ⊢; have HB1 := Aside0.mk (below_step HB0.out hb); have HCU1 := Aside0.mk (CU.below HCU.out HB1.out); have HR1 := Aside0.mk (blk_below HR0.out hb); have c0 := (blk_cell HCU1.out 0).trans rfl; have c1 := (blk_cell HCU1.out 1).trans rfl; have c2 := (blk_cell HCU1.out 2).trans rfl; have c3 := (blk_cell HCU1.out 3).trans rfl; have cf := blk_frozen HCU1.out 3; have r0 := (blk_cell HR1.out 0).trans rfl; have r1 := (blk_cell HR1.out 1).trans rfl; have r2 := (blk_cell HR1.out 2).trans rfl; have r3 := (blk_cell HR1.out 3).trans rfl; have r4 := (blk_cell HR1.out 4).trans rfl; have f0 := blk_frozen HR1.out 0; have f1 := blk_frozen HR1.out 1; have f2 := blk_frozen HR1.out 2; have f3 := blk_frozen HR1.out 3; have f4 := blk_frozen HR1.out 4; have hne : ¬ g = w.heap.size := (by omega); have hne' : ¬ w.heap.size = g := (by omega); clear hb h1 h2))
  have hG := CU.set3 HCU1.out true
  have hB := (But.of_below HB1.out (O := g)).setCell 3 (.bool true)
  have hR := blk_far HR1.out (p := ⟨g, 3, none⟩) hne' (.bool true)
  clear HCU1 HR1 c0 c1 c2 c3 cf r0 r1 r2 r3 r4 f0 f1 f2 f3 f4
  generalize w1.setCell ⟨g, 3, none⟩ (.bool true) = W1 at *
  refine bodyPost_ret (next_res _ _ w.heap.size _ _ _ _ _ (blk_put (blk_put (blk_put (blk_put (blk_put hR 0 _ rfl) 1 _ rfl) 2 _ rfl) 3 _ rfl) 4 _ rfl) rfl) rfl ?_
  refine ⟨rfl, ?_, ?_⟩
  · exact blk_far (blk_far (blk_far (blk_far (blk_far hG hne _) hne _) hne _) hne _) hne _
  · exact But.up (But.up (But.up (But.up (But.up hB (Nat.le_refl _) _) (Nat.le_refl _) _) (Nat.le_refl _) _) (Nat.le_refl _) _) (Nat.le_refl _) _
set_option maxHeartbeats 4000000 in
set_option maxRecDepth 100000 in
theorem next.ok (g : Nat) (A : Option Addr) (c n : Nat) (b : List Int) (q : Int) (w : World) (hcu : CU w g true (.slice A n c) q false) (hn : b.length = n) (hC : Kd.C (Kd.int .u8) w A n b) (hc : n ≤ c) (hok : okB b = true) (h0 : 0 < n) (hlen : n ≤ 1000000) (hseg : n ≤ 2504 ∨ segN b ≤ 2500) (hT : TabZ w) (hq : 0 ≤ q ∧ q ≤ 4294967296) (ls : List S65) (ss : List S54) (m : Nat) (hE : chunkB b = (ls, ss, (m : Int))) (hm : 1 ≤ m ∧ m ≤ n) (hs : 1 ≤ ss.length ∧ ss.length ≤ 20) (hne0 : ∀ a, A = some a → a.block ≠ g) :
    Calls Tryd.prog 9 #[.pointer (some ⟨g, 0, none⟩)] w fun e w' => ∃ (v1 v2 : Value) (A' : Option Addr) (c' : Nat), e = .returned (.tuple #[.agg #[v1, .int .i64 q, .int .i64 m, .int .i64 (rd_T54 ss 0).f0, .int .i64 (rd_T54 ss ((ss.length : Int) - 1)).f0], v2, .bool true]) ∧ Kd.R k65 65 w' w.heap.size (fun _ => True) v1 ls ∧ Kd.R k54 54 w' w.heap.size (fun _ => True) v2 ss ∧ CU w' g true (.slice A' (b.drop m).length c') (q + m) false ∧ Kd.C (Kd.int .u8) w' A' (b.drop m).length (b.drop m) ∧ (b.drop m).length ≤ c' ∧ (∀ a, A' = some a → a.block ≠ g) ∧ But g w.heap.size w w' := by
  subst hn
  have HCU := Aside0.mk hcu
  have HC := Aside0.mk hC
  have CH := Aside0.mk (fun W (hb : Below w.heap.size w W) => chunkB.calls A c b.length b W rfl (Kd.C_below hC hb) hc hok hlen hseg (hT.below hb))
  have b0 := (blk_cell hcu 0).trans rfl
  have b1 := (blk_cell hcu 1).trans rfl
  have b2 := (blk_cell hcu 2).trans rfl
  have b3 := (blk_cell hcu 3).trans rfl
  have hgl : g < w.heap.size := blk_lt hcu
  have hb0 : ((b.length : Int) == 0) = false := beq_eq_false_iff_ne.2 (by omega)
  have HE := Aside0.mk hE
  have HR0 := Aside0.mk (blk_new w (.cells #[.slice none 0 0, .int .i64 0, .int .i64 0, .int .i64 0, .int .i64 0] 29 (0, 0)))
  have HB0 := Aside0.mk (below_alloc (Below.refl w.heap.size w) (.cells #[.slice none 0 0, .int .i64 0, .int .i64 0, .int .i64 0, .int .i64 0] 29 (0, 0)))
  obtain ⟨A', c', r, hr, HCR, hc', HAB, hcut⟩ := cutB2 A c b m hm.2 hc
  have hcut1 := hcut (m : Int) rfl
  have HNE := Aside0.mk hne0
  have HAL := Aside0.mk (C_lt hC h0)
  have HRD := Aside0.mk hr.out
  have hq1 := hq.1
  have hq2 := hq.2
  have hs1 := hs.1
  have hs2 := hs.2
  have hm1 := hm.1
  have hm2 := hm.2
  have hm0 : ((m : Int) == 0) = false := beq_eq_false_iff_ne.2 (by omega)
  clear hcu hC hc hok h0 hseg hT hE hr hcut hne0 hq hs hm
  go_enter Tryd.func9, Tryd.ntmps9
  go_wp2_with (first | (go_at_call 29; (with_reducible refine (CH.out _ HB0.out).mono ?_); rintro e w1 ⟨v1, v2, rfl, h1, h2, hb⟩; rw [HE.out] at h1 h2 ⊢; dsimp only at h1 h2 ⊢; obtain ⟨a5, c5, rfl⟩ := Kd.R_slice1 h2 (by omega); obtain ⟨A4, c4, rfl⟩ := Kd.R_slice h1; have HV1 := Aside0.mk h1; have HV2 := Aside0.mk h2; have HB1 := Aside0.mk (below_step HB0.out hb); have HCU1 := Aside0.mk (CU.below HCU.out HB1.out); have HR1 := Aside0.mk (blk_below HR0.out hb); have c0 := (blk_cell HCU1.out 0).trans rfl; have c1 := (blk_cell HCU1.out 1).trans rfl; have c2 := (blk_cell HCU1.out 2).trans rfl; have c3 := (blk_cell HCU1.out 3).trans rfl; have cf1 := blk_frozen HCU1.out 1; have cf2 := blk_frozen HCU1.out 2; have hne : ¬ g = w.heap.size := (by omega); have hne' : ¬ w.heap.size = g := (by omega); clear hb))
  obtain ⟨ad0, had0, s0, _⟩ := at_T54 (Kd.R_reads' h2).2.2 (0 : Int) (by omega) (by omega)
  obtain ⟨ad1, had1, s1, _⟩ := at_T54 (Kd.R_reads' h2).2.2 ((ss.length : Int) - 1) (by omega) (by omega)
  cases had0
  cases had1
  have s0 : w1.cell? a5 = some (.int .i64 (rd_T54 ss 0).f0) := by simpa [Addr.add] using s0
  rw [show ((ss.length : Int) - 1).toNat = ss.length - 1 by omega] at s1
  clear h1 h2
  have s1' := cell_alloc_old (.cells #[.slice none 0 0, .int .i64 0, .int .i64 0, .int .i64 0, .int .i64 0] 29) s1
  have s0' := cell_alloc_old (.cells #[.slice none 0 0, .int .i64 0, .int .i64 0, .int .i64 0, .int .i64 0] 29) s0
  have c2' := cell_alloc_old (.cells #[.slice none 0 0, .int .i64 0, .int .i64 0, .int .i64 0, .int .i64 0] 29) c2
  go_region
  have HB2 := Aside0.mk (below_drew (below_alloc HB1.out (.cells #[.slice A4 ls.length c4, .int .i64 q, .int .i64 m, .int .i64 (rd_T54 ss 0).f0, .int .i64 (rd_T54 ss ((ss.length : Int) - 1)).f0] 29)))
  have HN2 := Aside0.mk (blk_drew (blk_new w1 (.cells #[.slice A4 ls.length c4, .int .i64 q, .int .i64 m, .int .i64 (rd_T54 ss 0).f0, .int .i64 (rd_T54 ss ((ss.length : Int) - 1)).f0] 29)))
  have HW2 := Aside0.mk (below_drew (below_alloc (Below.refl w1.heap.size w1) (.cells #[.slice A4 ls.length c4, .int .i64 q, .int .i64 m, .int .i64 (rd_T54 ss 0).f0, .int .i64 (rd_T54 ss ((ss.length : Int) - 1)).f0] 29)))
  have hnl : w.heap.size < w1.heap.size := blk_lt HR1.out
  clear c0 c1 c2 c3 cf1 cf2 s0 s1 s0' s1' c2' b0 b1 b2 b3
  generalize (w1.alloc (.cells #[.slice A4 ls.length c4, .int .i64 q, .int .i64 m, .int .i64 (rd_T54 ss 0).f0, .int .i64 (rd_T54 ss ((ss.length : Int) - 1)).f0] 29)).drew = W2 at *
  have HCU2 := Aside0.mk (CU.below HCU.out HB2.out)
  have HR2 := Aside0.mk (blk_below HR1.out HW2.out)
  have c1 := (blk_cell HCU2.out 1).trans rfl
  have c2 := (blk_cell HCU2.out 2).trans rfl
  have cf1 := blk_frozen HCU2.out 1
  have cf2 := blk_frozen HCU2.out 2
  go_wp2
  go_region
  have hgw : g ≠ w1.heap.size := by omega
  have HV12 := Aside0.mk (Kd.R_below HV1.out HW2.out)
  have HV22 := Aside0.mk (Kd.R_below HV2.out HW2.out)
  have HG3 : Aside0 (CU ((W2.setCell ⟨g, 1, none⟩ (.slice A' r.length c')).setCell ⟨g, 2, none⟩ (.int .i64 (q + m))).drew g true (.slice A' r.length c') (q + m) false) := ⟨CU.set2 (CU.set1 HCU2.out _) _⟩
  have HN3 : Aside0 (((W2.setCell ⟨g, 1, none⟩ (.slice A' r.length c')).setCell ⟨g, 2, none⟩ (.int .i64 (q + m))).drew.heap[w1.heap.size]? = _) := ⟨blk_far (blk_far HN2.out (p := ⟨g, 1, none⟩) (Ne.symm hgw) _) (p := ⟨g, 2, none⟩) (Ne.symm hgw) _⟩
  have HR3 : Aside0 (((W2.setCell ⟨g, 1, none⟩ (.slice A' r.length c')).setCell ⟨g, 2, none⟩ (.int .i64 (q + m))).drew.heap[w.heap.size]? = _) := ⟨blk_far (blk_far HR2.out (p := ⟨g, 1, none⟩) hne' _) (p := ⟨g, 2, none⟩) hne' _⟩
  have HBUT3 : Aside0 (But g w.heap.size w ((W2.setCell ⟨g, 1, none⟩ (.slice A' r.length c')).setCell ⟨g, 2, none⟩ (.int .i64 (q + m))).drew) := ⟨by
    have h1 := ((But.of_below HB2.out (O := g)).setCell 1 (.slice A' r.length c')).setCell 2 (.int .i64 (q + m))
    exact ⟨h1.os, h1.tape, h1.output, h1.size, h1.block⟩⟩
  have HN0 := Aside0.mk (fun a (h : A' = some a) => (show a.block ≠ g from by obtain ⟨x, hx, e⟩ := HAB.out a h; rw [e]; exact HNE.out x hx))
  have HC3 : Aside0 (Kd.C (Kd.int .u8) ((W2.setCell ⟨g, 1, none⟩ (.slice A' r.length c')).setCell ⟨g, 2, none⟩ (.int .i64 (q + m))).drew A' r.length r) := ⟨by
    have h1 := HCR.out W2 (Kd.C_below HC.out HB2.out)
    exact Kd.C_below (C_far (C_far h1 (p := ⟨g, 1, none⟩) HN0.out _) (p := ⟨g, 2, none⟩) HN0.out _) (below_drew (Below.refl _ _))⟩
  have HV13 : Aside0 (Kd.R k65 65 ((W2.setCell ⟨g, 1, none⟩ (.slice A' r.length c')).setCell ⟨g, 2, none⟩ (.int .i64 (q + m))).drew (w.heap.size + 1) (fun _ => True) (.slice A4 ls.length c4) ls) := ⟨R_drew2 (fun k hk => by have := hk.2.1; rw [World.size_alloc] at this; show k ≠ g; omega) (by simp) (Kd.R_bound HV12.out)⟩
  have HV23 : Aside0 (Kd.R k54 54 ((W2.setCell ⟨g, 1, none⟩ (.slice A' r.length c')).setCell ⟨g, 2, none⟩ (.int .i64 (q + m))).drew (w.heap.size + 1) (fun _ => True) (.slice (some a5) ss.length c5) ss) := ⟨R_drew2 (fun k hk => by have := hk.2.1; rw [World.size_alloc] at this; show k ≠ g; omega) (by simp) (Kd.R_bound HV22.out)⟩
  clear c1 c2 cf1 cf2 HV12 HV22 HV1 HV2 HCU2 HR2 HN2 HB2 HW2
  generalize ((W2.setCell ⟨g, 1, none⟩ (.slice A' r.length c')).setCell ⟨g, 2, none⟩ (.int .i64 (q + m))).drew = W3 at *
  have n0 := (blk_cell HN3.out 0).trans rfl
  have n1 := (blk_cell HN3.out 1).trans rfl
  have n2 := (blk_cell HN3.out 2).trans rfl
  have n3 := (blk_cell HN3.out 3).trans rfl
  have n4 := (blk_cell HN3.out 4).trans rfl
  have r0 := (blk_cell HR3.out 0).trans rfl
  have r1 := (blk_cell HR3.out 1).trans rfl
  have r2 := (blk_cell HR3.out 2).trans rfl
  have r3 := (blk_cell HR3.out 3).trans rfl
  have r4 := (blk_cell HR3.out 4).trans rfl
  have f0 := blk_frozen HR3.out 0
  have f1 := blk_frozen HR3.out 1
  have f2 := blk_frozen HR3.out 2
  have f3 := blk_frozen HR3.out 3
  have f4 := blk_frozen HR3.out 4
  go_wp2
  have HNR := Aside0.mk (fun a (h : A' = some a) => (show a.block ≠ w.heap.size from by obtain ⟨x, hx, e⟩ := HAB.out a h; rw [e]; have := HAL.out x hx; omega))
  have hok : ∀ {P : Nat → Prop} (k : Nat), (True ∧ w.heap.size + 1 ≤ k ∧ P k) → k ≠ w.heap.size := fun k hk => by have := hk.2.1; omega
  refine bodyPost_ret (next_res _ _ w.heap.size _ _ _ _ _ (blk_put (blk_put (blk_put (blk_put (blk_put HR3.out 0 _ rfl) 1 _ rfl) 2 _ rfl) 3 _ rfl) 4 _ rfl) rfl) rfl ?_
  refine ⟨_, _, A', c', rfl, ?_, ?_, ?_, ?_, by rw [← HRD.out]; exact hc', HN0.out, ?_⟩
  · exact Kd.R_mono (Kd.R_lower (Kd.R_far (Kd.R_far (Kd.R_far (Kd.R_far (Kd.R_far (Kd.R_bound HV13.out) (p := ⟨w.heap.size, 0, none⟩) hok _) (p := ⟨w.heap.size, 1, none⟩) hok _) (p := ⟨w.heap.size, 2, none⟩) hok _) (p := ⟨w.heap.size, 3, none⟩) hok _) (p := ⟨w.heap.size, 4, none⟩) hok _) (Nat.le_succ _)) (fun _ _ => trivial)
  · exact Kd.R_mono (Kd.R_lower (Kd.R_far (Kd.R_far (Kd.R_far (Kd.R_far (Kd.R_far (Kd.R_bound HV23.out) (p := ⟨w.heap.size, 0, none⟩) hok _) (p := ⟨w.heap.size, 1, none⟩) hok _) (p := ⟨w.heap.size, 2, none⟩) hok _) (p := ⟨w.heap.size, 3, none⟩) hok _) (p := ⟨w.heap.size, 4, none⟩) hok _) (Nat.le_succ _)) (fun _ _ => trivial)
  · rw [← HRD.out]
    exact blk_far (blk_far (blk_far (blk_far (blk_far HG3.out (p := ⟨w.heap.size, 0, none⟩) hne _) (p := ⟨w.heap.size, 1, none⟩) hne _) (p := ⟨w.heap.size, 2, none⟩) hne _) (p := ⟨w.heap.size, 3, none⟩) hne _) (p := ⟨w.heap.size, 4, none⟩) hne _
  · rw [← HRD.out]
    exact C_far (C_far (C_far (C_far (C_far HC3.out (p := ⟨w.heap.size, 0, none⟩) HNR.out _) (p := ⟨w.heap.size, 1, none⟩) HNR.out _) (p := ⟨w.heap.size, 2, none⟩) HNR.out _) (p := ⟨w.heap.size, 3, none⟩) HNR.out _) (p := ⟨w.heap.size, 4, none⟩) HNR.out _
  · exact But.up (But.up (But.up (But.up (But.up HBUT3.out (Nat.le_refl _) _) (Nat.le_refl _) _) (Nat.le_refl _) _) (Nat.le_refl _) _) (Nat.le_refl _) _
end Go.Proofs.YtbgmnmjokdfmlaaDoor.PA
namespace Go.Proofs.YtbgmnmjokdfmlaaDoor.PA
open Go.RowKit Go.Proofs.YtbgmnmjokdfmlaaDoor.G Go.Proofs.YtbgmnmjokdfmlaaDoorW.PrintWords Go.Proofs.YtbgmnmjokdfmlaaDoorW.PrintLast Go.Proofs.YtbgmnmjokdfmlaaDoorW.PrintMore
set_option linter.unusedVariables false
set_option linter.unusedSimpArgs false
theorem one_C {α : Type} (d : Kd α) {W : World} {g t : Nat} {fr : Nat × Nat} {cs : Array Value} {x : α} (hb : W.heap[g]? = some (.cells cs t fr)) (hK : d.K W x cs.toList) : d.C W (some ⟨g, 0, none⟩) 1 [x] := by
  refine ⟨rfl, by decide, fun _ => ⟨_, rfl, fun j p hj => ?_⟩⟩
  match j, hj with
  | 0, hj =>
    injection hj with hj
    subst hj
    refine ⟨cs.toList, d.K_len hK, hK, fun i u hu => ?_⟩
    rw [Nat.zero_mul, Nat.zero_add, add_plain]
    exact (cell_of_row W g i cs t fr hb).trans (by simpa using hu)
  | n + 1, hj => simp at hj
theorem own_ne {W : World} {base g n c : Nat} {A : Option Addr} {xs : List Int} {on br : Bool} {v : Value} {q : Int} (h : Kd.R (Kd.int .u8) 5 W base (fun _ => True) (.slice A n c) xs) (hc : CU W g on v q br) : ∀ a, A = some a → a.block ≠ g := fun a ha e => by
  subst ha
  obtain ⟨cells, h1⟩ := Kd.R_typed h a.block rfl
  rw [e] at h1
  exact blk_ne h1 hc (by decide) rfl
def awX : S60 := ⟨[⟨⟨#[97]⟩, ⟨#[120]⟩⟩], [⟨1, 2⟩]⟩
theorem awX_l : canL awX.f0 = true := by decide
theorem awX_s : canS awX.f1 = true := by decide
theorem awX_ok : ∀ s ∈ awX.f1, okS s := fun s hs => by
  simp only [awX, List.mem_cons, List.not_mem_nil, or_false] at hs
  subst hs
  exact ⟨⟨by decide, by decide⟩, by decide, by decide⟩
theorem awZ_can : canC [awX] = true := canC_ok fun j hj => by
  obtain rfl : j = 0 := by simp at hj; omega
  exact okC_zero (canX_ok awX_l (by decide) awX_s)
theorem awZ_enc : encC [awX] = encPart (encLb awX.f0) awX.f1 := by
  simp [encC, encSer, encPs, partS, plen, awX]
theorem awX_z : okZ [awX] := fun x hx => by
  simp only [List.mem_cons, List.not_mem_nil, or_false] at hx
  subst hx
  refine ⟨fun y hy => ?_, by decide, by decide, awX_ok⟩
  simp only [awX, List.mem_cons, List.not_mem_nil, or_false] at hy
  subst hy
  exact ⟨by decide, by decide⟩
set_option maxHeartbeats 4000000 in
set_option maxRecDepth 100000 in
theorem cawake.calls (w : World) (hT : TabZ w) :
    Calls Tryd.prog 12 #[] w fun e w' => e = .returned (.bool true) ∧ Below w.heap.size w w' := by
  obtain ⟨L, hL⟩ : ∃ L, encPart (encLb awX.f0) awX.f1 = L := ⟨_, rfl⟩
  have hp := chunkB_part awX.f0 awX.f1 [] awX_l awX_s awX_ok (by decide) (by decide)
  have hok := encPart_okB awX_l awX_s awX_ok (by decide)
  have hLl := encPart_len (encLb_len awX_l) (show awX.f1.length ≤ 20 by decide) awX_ok awX_s
  have hL0 : 4 ≤ (encPart (encLb awX.f0) awX.f1).length := by
    rw [encPart, List.length_append, beL_length]
    omega
  have henc := awZ_enc
  rw [List.append_nil] at hp
  rw [hL] at hp hok hLl hL0 henc
  have HE := Aside0.mk (show encCF [awX] = (L, 0) by rw [encCF, if_pos awZ_can, henc])
  have HP := Aside0.mk hp
  have HOK := Aside0.mk hok
  have HT := Aside0.mk hT
  have HLl := Aside0.mk hLl
  have HL0 := Aside0.mk hL0
  clear hp hok hLl hL0 henc hT hL
  obtain ⟨W3, hW3⟩ : ∃ W3, (((w.alloc (.cells #[.string ⟨#[97]⟩, .string ⟨#[120]⟩] 65)).alloc (.cells #[.int .i64 1, .int .u64 2] 54)).alloc (.cells #[.slice (some ⟨w.heap.size, 0, none⟩) 1 1, .slice (some ⟨w.heap.size + 1, 0, none⟩) 1 1] 60)) = W3 := ⟨_, rfl⟩
  have HB3 : Aside0 (Below w.heap.size w W3) := ⟨by rw [← hW3]; exact below_alloc (below_alloc (below_alloc (Below.refl _ _) _) _) _⟩
  have hb1 : W3.heap[w.heap.size]? = some (.cells #[.string ⟨#[97]⟩, .string ⟨#[120]⟩] 65 (0, 0)) := by
    rw [← hW3]; exact blk_alloc (blk_alloc (blk_new w _) _) _
  have hb2 : W3.heap[w.heap.size + 1]? = some (.cells #[.int .i64 1, .int .u64 2] 54 (0, 0)) := by
    rw [← hW3]
    have := blk_new (w.alloc (.cells #[.string ⟨#[97]⟩, .string ⟨#[120]⟩] 65)) (.cells #[.int .i64 1, .int .u64 2] 54)
    rw [World.size_alloc] at this
    exact blk_alloc this _
  have hb3 : W3.heap[w.heap.size + 1 + 1]? = some (.cells #[.slice (some ⟨w.heap.size, 0, none⟩) 1 1, .slice (some ⟨w.heap.size + 1, 0, none⟩) 1 1] 60 (0, 0)) := by
    rw [← hW3]
    have := blk_new ((w.alloc (.cells #[.string ⟨#[97]⟩, .string ⟨#[120]⟩] 65)).alloc (.cells #[.int .i64 1, .int .u64 2] 54)) (.cells #[.slice (some ⟨w.heap.size, 0, none⟩) 1 1, .slice (some ⟨w.heap.size + 1, 0, none⟩) 1 1] 60)
    rwa [World.size_alloc, World.size_alloc] at this
  have hC := one_C k60 (x := awX) hb3 (k60_mk W3 awX (Nat.le_refl 1) (one_C k65 (x := ⟨⟨#[97]⟩, ⟨#[120]⟩⟩) hb1 (k65_mk W3 _)) (Nat.le_refl 1) (one_C k54 (x := ⟨1, 2⟩) hb2 (k54_mk W3 _)))
  have CE := Aside0.mk (encCF.calls (some ⟨w.heap.size + 1 + 1, 0, none⟩) 1 1 [awX] L 0 W3 rfl hC (Nat.le_refl 1) awX_z (by decide) (fun x hx => by simp only [List.mem_cons, List.not_mem_nil, or_false] at hx; subst hx; decide) (HT.out.below HB3.out) HE.out)
  clear hC hb1 hb2 hb3
  have hl1 : ((awX.f1.length : Int) == 1) = true := by decide
  go_enter Tryd.func12, Tryd.ntmps12
  go_wp2_with (first | (go_at_call 14; (try rw [hW3]); (with_reducible refine CE.out.mono ?_); rintro e w4 ⟨v4, rfl, hr4, hb4⟩; clear hW3; obtain ⟨a4, c4, rfl⟩ := Kd.R_slice1 hr4 (by have := HL0.out; omega); have HR4 := Aside0.mk (Kd.R_reads' hr4); have HB4 := Aside0.mk (below_step HB3.out hb4); clear hr4 hb4) | (go_at_call 11; (with_reducible refine (open.calls (some a4) c4 L.length L 0 _ rfl HR4.out.2.2 HR4.out.2.1 (by have := HLl.out; omega)).mono ?_); rintro e w5 ⟨g, v5, rfl, hg, hr5, hgw, hb5⟩; obtain ⟨a5, c5, rfl⟩ := Kd.R_slice1 hr5 (by have := HL0.out; omega); have HG := Aside0.mk hg; have HR5 := Aside0.mk (Kd.R_reads' hr5); have HNE := Aside0.mk (own_ne hr5 hg); have HB5 := Aside0.mk (below_step HB4.out hb5); have HGW := Aside0.mk hgw; clear hg hr5 hgw hb5) | (go_at_call 9; (with_reducible refine (next.ok g (some a5) c5 L.length L (atC 0) _ HG.out rfl HR5.out.2.2 HR5.out.2.1 HOK.out (by have := HL0.out; omega) (by have := HLl.out; omega) (.inl (by have := HLl.out; omega)) (HT.out.below HB5.out) (by decide) awX.f0 awX.f1 L.length HP.out ⟨by have := HL0.out; omega, Nat.le_refl _⟩ (by decide) HNE.out).mono ?_); rintro e w6 ⟨v6, v7, A', c', rfl, h6, h7, _, _, _, _, hb6⟩; obtain ⟨a6, c6, rfl⟩ := Kd.R_slice1 h6 (by decide); obtain ⟨a7, c7, rfl⟩ := Kd.R_slice1 h7 (by decide); have HB6 := Aside0.mk (HB5.out.trans (hb6.below (n := w.heap.size) (by have := HGW.out; have := HB4.out.size; omega) HB5.out.size)); clear h6 h7 hb6))
  go_ret
  exact ⟨rfl, below_alloc HB6.out _⟩
end Go.Proofs.YtbgmnmjokdfmlaaDoor.PA

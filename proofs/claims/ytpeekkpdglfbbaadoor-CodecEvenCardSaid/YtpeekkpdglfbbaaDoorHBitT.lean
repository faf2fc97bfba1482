/- What is taken of bits. -/
import Derived.Test.YtpeekkpdglfbbaaDoorHBitF
namespace Go.Proofs.YtpeekkpdglfbbaaDoor.PA
open Go.RowKit Go.Proofs.YtpeekkpdglfbbaaDoor.G Go.Proofs.YtpeekkpdglfbbaaDoorW.PrintWords Go.Proofs.YtpeekkpdglfbbaaDoorW.PrintLast Go.Proofs.YtpeekkpdglfbbaaDoorW.PrintMore
set_option linter.unusedVariables false
set_option linter.unusedSimpArgs false
attribute [local instance 10] Classical.propDecidable


/-! ### taking -/
theorem num_lt64 (L : List Bool) (h : L.length ≤ 64) : num L < 18446744073709551616 :=
  Nat.lt_of_lt_of_le (num_lt L) (Nat.le_trans (Nat.pow_le_pow_right (n := 2) (by decide) h) (by decide))
theorem mask8 (T : Nat) (h : T ≤ 8) : ((shl .u8 1 (T : Int) - 1) % 256) = ((2 ^ T - 1 : Nat) : Int) := by
  have hj : T = 0 ∨ T = 1 ∨ T = 2 ∨ T = 3 ∨ T = 4 ∨ T = 5 ∨ T = 6 ∨ T = 7 ∨ T = 8 := by omega
  rcases hj with h | h | h | h | h | h | h | h | h <;> subst h <;> decide +kernel
theorem w64sub {a b : Nat} (h : b ≤ a) (ha : a < 9000000000000000000) : wrap64 ((a : Int) - (b : Int)) = ((a - b : Nat) : Int) := by
  rw [show ((a : Int) - (b : Int)) = ((a - b : Nat) : Int) by omega]
  exact w64n (by omega)
theorem w64add {a b : Nat} (ha : a + b < 9000000000000000000) : wrap64 ((a : Int) + (b : Int)) = ((a + b : Nat) : Int) := by
  rw [show ((a : Int) + (b : Int)) = ((a + b : Nat) : Int) by omega]
  exact w64n (by omega)
/-- one round's numbers -/
theorem stepE {k p c T x : Nat} {l : List Int} {N : Int} (hT : min c (8 - p % 8) = T) (hT9 : T ≤ 8 - p % 8) (hTc : T ≤ c) (hpT : p + T < 9000000000000000000) (hp8 : p / 8 < l.length) (hc64 : c < 9000000000000000000) :
    (if 0 ≤ (mn (wrap64 (8 - (Int.tmod (p : Int) 8))) (c : Int)) then (if 0 ≤ (wrap64 (Int.tdiv (p : Int) 8)) then (if (wrap64 (Int.tdiv (p : Int) 8)) < (l.length : Int) then (if 0 ≤ (wrap64 ((wrap64 (8 - (Int.tmod (p : Int) 8))) - (mn (wrap64 (8 - (Int.tmod (p : Int) 8))) (c : Int)))) then (bits_Take.l0 k (wrap64 ((p : Int) + (mn (wrap64 (8 - (Int.tmod (p : Int) 8))) (c : Int)))) (wrap64 ((c : Int) - (mn (wrap64 (8 - (Int.tmod (p : Int) 8))) (c : Int)))) (Go.bits .or .u64 (shl .u64 (x : Int) (mn (wrap64 (8 - (Int.tmod (p : Int) 8))) (c : Int))) (IntKind.u64.wrap (Go.bits .and .u8 (shr .u8 (rd l (wrap64 (Int.tdiv (p : Int) 8))) (wrap64 ((wrap64 (8 - (Int.tmod (p : Int) 8))) - (mn (wrap64 (8 - (Int.tmod (p : Int) 8))) (c : Int))))) (((shl .u8 1 (mn (wrap64 (8 - (Int.tmod (p : Int) 8))) (c : Int))) - 1) % 256)))) l N) else (none)) else (none)) else (none)) else (none)) =
    bits_Take.l0 k ((p + T : Nat) : Int) ((c - T : Nat) : Int) (Go.bits .or .u64 (shl .u64 (x : Int) (T : Int)) (IntKind.u64.wrap (Go.bits .and .u8 (shr .u8 (rd l ((p / 8 : Nat) : Int)) ((8 - p % 8 - T : Nat) : Int)) ((shl .u8 1 (T : Int) - 1) % 256)))) l N := by
  have e1 : wrap64 (8 - Int.tmod (p : Int) 8) = ((8 - p % 8 : Nat) : Int) := by
    rw [tm8]
    exact w64sub (a := 8) (Nat.le_of_lt (Nat.mod_lt p (by decide))) (by decide)
  have e2 : mn ((8 - p % 8 : Nat) : Int) (c : Int) = (T : Int) := by
    clear e1
    unfold mn
    split <;> omega
  have e3 : wrap64 (Int.tdiv (p : Int) 8) = ((p / 8 : Nat) : Int) := by
    clear e1 e2
    rw [td8]
    exact w64n (by omega)
  have e4 : wrap64 (((8 - p % 8 : Nat) : Int) - (T : Int)) = ((8 - p % 8 - T : Nat) : Int) := w64sub hT9 (by clear e1 e2 e3; omega)
  have e5 : wrap64 ((p : Int) + (T : Int)) = ((p + T : Nat) : Int) := w64add hpT
  have e6 : wrap64 ((c : Int) - (T : Int)) = ((c - T : Nat) : Int) := by
    clear e1 e2 e3 e4 e5
    exact w64sub hTc hc64
  rw [e1, e2, e3, e4, e5, e6]
  clear e1 e2 e3 e4 e5 e6
  rw [if_pos (by omega), if_pos (by omega), if_pos (by omega), if_pos (by omega)]
theorem btake_loop {l : List Int} (hl : OkL l) (hlen : l.length < 1000000000) (N : Int) : ∀ (c p k x : Nat), p + c ≤ 8 * l.length → c ≤ 64 → c < k → x * 2 ^ c + num (win l p c) < 18446744073709551616 →
    bits_Take.l0 k (p : Int) (c : Int) (x : Int) l N = some (((x * 2 ^ c + num (win l p c) : Nat) : Int), 0) := by
  intro c
  induction c using Nat.strongRecOn with
  | ind c ih =>
    intro p k x hp hc hk hx
    have HX := Aside0.mk hx
    clear hx
    obtain ⟨k, rfl⟩ : ∃ k', k = k' + 1 := ⟨k - 1, by omega⟩
    rw [bits_Take.l0]
    by_cases h0 : c = 0
    · subst h0
      rw [if_neg (by omega)]
      simp [win, num]
    · rw [if_pos (by omega)]
      obtain ⟨T, hT⟩ : ∃ T, min c (8 - p % 8) = T := ⟨_, rfl⟩
      have hT8 : T ≤ 8 := by omega
      have hT9 : T ≤ 8 - p % 8 := by omega
      have hTc : T ≤ c := by omega
      have hT0 : 0 < T := by omega
      have hp8 : p / 8 < l.length := by omega
      have hb := hl.at (p / 8)
      have hb256 : (l.getD (p / 8) 0).toNat < 256 := by omega
      have hpT : p + T < 9000000000000000000 := by omega
      have hpT2 : p + T + (c - T) ≤ 8 * l.length := by omega
      have hc2 : c - T ≤ 64 := by omega
      have hk2 : c - T < k := by omega
      have hlt2 : c - T < c := by omega
      have hwl : (win l p T).length ≤ 64 := by rw [win_length]; omega
      have hbb : (l.getD (p / 8) 0) = (((l.getD (p / 8) 0).toNat : Nat) : Int) := by omega
      have hTm : ((shl .u8 1 (T : Int) - 1) % 256) = ((2 ^ T - 1 : Nat) : Int) := by
        exact mask8 T hT8
      have h2T : 2 ^ T ≤ 256 := Nat.le_trans (Nat.pow_le_pow_right (n := 2) (by decide) hT8) (by decide)
      have hdl : (l.getD (p / 8) 0).toNat / 2 ^ (8 - p % 8 - T) < 256 := Nat.lt_of_le_of_lt (Nat.div_le_self _ _) hb256
      have hbits : 8 - p % 8 - T ≤ IntKind.u8.bits := by simp [IntKind.bits]; omega
      have h2T' : 2 ^ T - 1 < 256 := by omega
      have e7 : IntKind.u64.wrap (Go.bits .and .u8 (shr .u8 (rd l ((p / 8 : Nat) : Int)) ((8 - p % 8 - T : Nat) : Int)) ((shl .u8 1 (T : Int) - 1) % 256)) = ((num (win l p T) : Nat) : Int) := by
        rw [rd_nat, hbb, hTm, shr_nat _ _ _ hbits, u8_and _ _ (Int.natCast_nonneg _) (Int.ofNat_lt.2 hdl) (Int.natCast_nonneg _) (Int.ofNat_lt.2 h2T'), Int.toNat_natCast, Int.toNat_natCast, Nat.and_two_pow_sub_one_eq_mod, ← take_step l p T hb256 hT9]
        apply u64wrap
        exact num_lt64 _ hwl
      clear hdl h2T h2T'
      have hsum : x * 2 ^ c + num (win l p c) = (x * 2 ^ T + num (win l p T)) * 2 ^ (c - T) + num (win l (p + T) (c - T)) := by
        rw [win_split l p c T (by omega), num_append, win_length, Nat.add_mul, Nat.mul_assoc, ← Nat.pow_add, show T + (c - T) = c by omega]
        omega
      rw [hsum]
      have hx := HX.out
      rw [hsum] at hx
      clear HX hsum
      have hnT : num (win l p T) < 2 ^ T := by have := num_lt (win l p T); rwa [win_length] at this
      have hle : x * 2 ^ T + num (win l p T) ≤ (x * 2 ^ T + num (win l p T)) * 2 ^ (c - T) := Nat.le_mul_of_pos_right _ (Nat.two_pow_pos _)
      have hxT : x * 2 ^ T < 18446744073709551616 := Nat.lt_of_le_of_lt (Nat.le_trans (Nat.le_add_right _ _) (Nat.le_trans hle (Nat.le_add_right _ _))) hx
      have HX := Aside0.mk hx
      clear hx hle
      have hnm : num (win l p T) < 18446744073709551616 := num_lt64 _ hwl
      have e8 : shl .u64 (x : Int) (T : Int) = ((x * 2 ^ T : Nat) : Int) := by
        unfold shl
        rw [Int.toNat_natCast, Nat.min_eq_left (by simp [IntKind.bits]; omega), ← u64wrap hxT, Int.natCast_mul, Int.natCast_pow]
        rfl
      have e9 : Go.bits .or .u64 ((x * 2 ^ T : Nat) : Int) ((num (win l p T) : Nat) : Int) = ((x * 2 ^ T + num (win l p T) : Nat) : Int) := by
        rw [u64_or _ _ (Int.natCast_nonneg _) (Int.ofNat_lt.2 hxT) (Int.natCast_nonneg _) (Int.ofNat_lt.2 hnm), Int.toNat_natCast, Int.toNat_natCast, nat_join T _ _ (Nat.mul_mod_left _ _) hnT]
      rw [stepE (p := p) (c := c) (T := T) hT hT9 hTc hpT hp8 (Nat.lt_of_le_of_lt hc (by decide)), e7, e8, e9]
      exact ih (c - T) hlt2 (p + T) k _ hpT2 hc2 hk2 HX.out
/-- what is taken: the number, or the error -/
noncomputable def takeR (l : List Int) (N p c : Int) : Int × Int :=
  if ¬ (0 ≤ N ∧ OkX l N.toNat) ∨ c < 0 ∨ 64 < c ∨ p < 0 ∨ N < p then (0, 1) else if N - p < c then (0, 3) else ((num (win l p.toNat c.toNat) : Nat), 0)
theorem btake_eq {l : List Int} (hl : OkL l) (hlen : l.length < 1000000000) (N p c : Int) (h1 : -9223372036854775808 ≤ N) (h2 : N ≤ 9223372036854775807) (k : Nat) (hk : 70 < k) : bits_Take.f k l N p c = some (takeR l N p c) := by
  unfold bits_Take.f takeR
  obtain ⟨k, rfl⟩ : ∃ k', k = k' + 1 := ⟨k - 1, by omega⟩
  rw [can_eq hl (by omega) N h1 h2, Option.bind_some]
  by_cases hV : 0 ≤ N ∧ OkX l N.toNat
  · rw [decide_eq_true hV, if_pos rfl]
    by_cases c1 : c < 0
    · rw [if_pos c1, if_pos (by omega), bits_Take.j0, if_pos rfl]
    rw [if_neg c1]
    by_cases c2 : c > 64
    · rw [if_pos c2, if_pos (by omega), bits_Take.j0, if_pos rfl]
    rw [if_neg c2]
    by_cases c3 : p < 0
    · rw [if_pos c3, if_pos (by omega), bits_Take.j0, if_pos rfl]
    rw [if_neg c3]
    by_cases c4 : p > N
    · rw [decide_eq_true c4, if_pos (by omega), bits_Take.j0, if_pos rfl]
    rw [decide_eq_false c4, bits_Take.j0, if_neg (by decide)]
    have hle := hV.2.le
    have hnb : ¬ (¬ (0 ≤ N ∧ OkX l N.toNat) ∨ c < 0 ∨ 64 < c ∨ p < 0 ∨ N < p) := by intro h; rcases h with h | h | h | h | h; exact h hV; all_goals omega
    rw [if_neg hnb, show wrap64 (N - p) = N - p from w64 (by omega) (by omega)]
    by_cases c5 : N - p < c
    · rw [if_pos c5, if_pos c5]
    rw [if_neg c5, if_neg c5]
    obtain ⟨q, rfl⟩ := Int.eq_ofNat_of_zero_le (by omega : 0 ≤ p)
    obtain ⟨d, rfl⟩ := Int.eq_ofNat_of_zero_le (by omega : 0 ≤ c)
    rw [Int.toNat_natCast, Int.toNat_natCast]
    have := btake_loop hl hlen N d q k 0 (by omega) (by omega) (by omega) (by rw [Nat.zero_mul, Nat.zero_add]; exact num_lt64 _ (by simp; omega))
    rw [Nat.zero_mul, Nat.zero_add] at this
    exact this
  · rw [decide_eq_false hV, if_neg (by decide), if_pos (.inl hV), bits_Take.j0, if_pos rfl]
end Go.Proofs.YtpeekkpdglfbbaaDoor.PA

/- The contracts of the reference's More and Sum. -/
import Derived.Test.YtmaoleabfmokpaaDoorGSum
namespace Go.Proofs.YtmaoleabfmokpaaDoor.G
open Go.RowKit Go.Proofs.YtmaoleabfmokpaaDoorW.PrintWords Go.Proofs.YtmaoleabfmokpaaDoorW.PrintLast Go.Proofs.YtmaoleabfmokpaaDoorW.PrintMore
set_option linter.unusedVariables false
set_option linter.unusedSimpArgs false
attribute [local go_sem high] unary_xor_u32
def dryrotref01_More.f (s : Int) (l : List Int) : Option Int := crc_More.f s l
def dryrotref01_Sum.f (l : List Int) : Option Int := crc_Sum.f l
/-- so many bits' steps -/
def ones : Nat → Nat → Nat
  | 0, r => r
  | n + 1, r => CrcMath.one (ones n r)
theorem ones_lt {r : Nat} (h : r < 4294967296) : ∀ n, ones n r < 4294967296
  | 0 => h
  | n + 1 => CrcMath.one_lt (ones_lt h n)
theorem ones8 (r : Nat) : ones 8 r = CrcMath.eight r := rfl

set_option maxHeartbeats 1000000 in
set_option maxRecDepth 100000 in
theorem dryrotref01_More.calls (a0 : Int) (A1 : Option Addr) (c1 : Nat) (l1 : List Int) (r : Int) (w : World) (hr1 : Kd.C (Kd.int .u8) w A1 l1.length l1) (hc1 : l1.length ≤ c1) (h : dryrotref01_More.f a0 l1 = some r) :
    Calls Tryd.prog 15 #[.int .u32 a0, .slice A1 l1.length c1] w fun e w' => e = .returned (.int .u32 r) ∧ Drawn0 w w' := by
  have HR := Aside0.mk hr1
  have hlen : l1.length ≤ 9223372036854775807 := Kd.C_max hr1
  clear hr1 hc1
  unfold dryrotref01_More.f crc_More.f at h
  split at h
  case isFalse => cases h
  case isTrue hok =>
  obtain rfl := Option.some.inj h
  clear h
  obtain ⟨hb, h0, h1⟩ := hok
  obtain ⟨S, rfl⟩ := Int.eq_ofNat_of_zero_le h0
  rw [Int.toNat_natCast]
  have hi := inv32_nat S (by omega)
  clear h0
  go_enter Tryd.func15, Tryd.ntmps15
  go_wp2
  have hl : (CrcMath.inv S) < 4294967296 := CrcMath.inv_lt (by omega)
  go_loop [5, 13] (fun r i => ∃ k : Nat, k ≤ l1.length ∧ i = .int .i64 k ∧ r = .int .u32 (CrcMath.run (CrcMath.inv S) (CrcMath.nat (l1.take k)) : Nat)) (fun _ i => l1.length - (intOf i).toNat)
  case atStart => exact ⟨0, Nat.zero_le _, rfl, rfl⟩
  case round =>
    obtain ⟨k, hk, rfl, rfl⟩ := hrel
    by_cases hlt : k < l1.length
    · obtain ⟨ad, rfl, hc⟩ := Kd.at_int HR.out (k : Int) (by omega) (by omega)
      rw [Int.toNat_natCast] at hc
      have hx := okB_iff.1 hb _ (rd_mem l1 k hlt)
      have HT := Aside0.mk (run_take (CrcMath.inv S) l1 k hlt)
      have hR := CrcMath.run_lt hl (CrcMath.nat_byte (take_byte hb k))
      generalize CrcMath.run (CrcMath.inv S) (CrcMath.nat (l1.take k)) = R at hR HT ⊢
      obtain ⟨X, hX⟩ := Int.eq_ofNat_of_zero_le hx.1
      rw [hX] at hc hx HT
      rw [Int.toNat_natCast] at HT
      clear hX
      have hw : IntKind.u32.wrap (X : Int) = (X : Int) := by rw [IntKind.wrap_u32]; omega
      have hxor := xor32 R X hR (by omega)
      have hL : R ^^^ X < 4294967296 := Nat.xor_lt_two_pow (n := 32) hR (by omega)
      go_wp2
      generalize R ^^^ X = Y at hL HT hxor ⊢
      clear hxor hw hc hx hR
      go_loop [5, 21] (fun r i => ∃ j : Nat, j ≤ 8 ∧ i = .int .i64 j ∧ r = .int .u32 (ones j Y : Nat)) (fun _ i => 8 - (intOf i).toNat)
      case atStart => exact ⟨0, by omega, rfl, rfl⟩
      case round =>
        obtain ⟨j, hj, rfl, rfl⟩ := hrel
        have hT' := ones_lt hL j
        by_cases hj4 : j < 8
        · have HN : Aside0 (ones (j + 1) Y = CrcMath.one (ones j Y)) := ⟨rfl⟩
          generalize ones j Y = Z at hT' HN ⊢
          have ha : Go.bits .and .u32 (Z : Int) 1 = ((Z % 2 : Nat) : Int) := by
            rw [show (1 : Int) = ((1 : Nat) : Int) from rfl, u32_and_nat Z 1 hT' (by omega), nat_mask1]
          by_cases hp : Z % 2 = 1
          · have hxor : Go.bits .xor .u32 ((Z : Int) / 2) 2197175160 = ((CrcMath.one Z : Nat) : Int) := by
              rw [show (Z : Int) / 2 = ((Z / 2 : Nat) : Int) from by omega]
              have := xor32 (Z / 2) 2197175160 (by omega) (by omega)
              unfold CrcMath.one
              rw [if_pos hp]
              exact this
            rw [hp] at ha
            generalize CrcMath.one Z = M at hxor HN
            have HZ := Aside0.mk hT'
            clear hT' hL h1 hl hi hj hp
            go_wp2
            go_round
            case rel => exact ⟨j + 1, by omega, by go_num, by rw [HN.out]⟩
            case measure => simp [intOf]; omega
          · have h0 : Z % 2 = 0 := by omega
            have hone : (Z : Int) / 2 = ((CrcMath.one Z : Nat) : Int) := by
              unfold CrcMath.one
              rw [if_neg hp, Nat.xor_zero]
              omega
            rw [h0] at ha
            generalize CrcMath.one Z = M at hone HN
            have HZ := Aside0.mk hT'
            clear hT' hL h1 hl hi hj hp h0
            go_wp2
            go_round
            case rel => exact ⟨j + 1, by omega, by go_num, by rw [HN.out]⟩
            case measure => simp [intOf]; omega
        · obtain rfl : j = 8 := by omega
          go_wp2
          go_round
          case rel => exact ⟨k + 1, by omega, by go_num, by rw [HT.out, ones8]⟩
          case measure => simp [intOf]; omega
    · obtain rfl : k = l1.length := by omega
      have hfin : inv32 ((CrcMath.run (CrcMath.inv S) (CrcMath.nat l1) : Nat) : Int) = ((CrcMath.more S l1 : Nat) : Int) := inv32_nat _ (CrcMath.run_lt hl (CrcMath.nat_byte (okB_iff.1 hb)))
      go_wp2
      go_ret
      exact ⟨rfl, Drawn0.refl _⟩

theorem dryrotref01_Sum.calls (A0 : Option Addr) (c0 : Nat) (l0 : List Int) (r : Int) (w : World) (hr0 : Kd.C (Kd.int .u8) w A0 l0.length l0) (hc0 : l0.length ≤ c0) (h : dryrotref01_Sum.f l0 = some r) :
    Calls Tryd.prog 17 #[.slice A0 l0.length c0] w fun e w' => e = .returned (.int .u32 r) ∧ Drawn0 w w' := by
  have hm : dryrotref01_More.f 0 l0 = some r := by
    unfold dryrotref01_Sum.f crc_Sum.f at h
    unfold dryrotref01_More.f crc_More.f
    split at h
    · rename_i hb
      rw [if_pos ⟨hb, by omega, by omega⟩]
      exact h
    · cases h
  have HR := Aside0.mk hr0
  have HM := Aside0.mk hm
  have HC := Aside0.mk hc0
  clear hr0 hm hc0 h
  go_enter Tryd.func17, Tryd.ntmps17
  go_wp2_with fail
  refine (dryrotref01_More.calls _ _ _ _ _ _ HR.out HC.out HM.out).mono ?_
  rintro e w1 ⟨rfl, ⟨n1, rfl⟩⟩
  go_wp2
  go_ret
  exact ⟨rfl, ⟨n1, rfl⟩⟩
end Go.Proofs.YtmaoleabfmokpaaDoor.G

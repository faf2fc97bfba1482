/- The contracts of crc.More and crc.Sum, where the table lies as its text lays it, and of the reference's. -/
import Derived.Test.YtmaoleabfmokpaaDoorGBase
import Derived.Test.YtmaoleabfmokpaaDoorGCrcMath
namespace Go.Proofs.YtmaoleabfmokpaaDoor.G
open Go.RowKit Go.Proofs.YtmaoleabfmokpaaDoorW.PrintWords Go.Proofs.YtmaoleabfmokpaaDoorW.PrintLast Go.Proofs.YtmaoleabfmokpaaDoorW.PrintMore
set_option linter.unusedVariables false
set_option linter.unusedSimpArgs false

/-- the table of crc lies in its variable -/
structure TabQ (w : World) : Prop where mk :: (out : ∀ j, j < 4 → w.cell? ⟨0, j, none⟩ = some (.int .u32 (CrcMath.quarter j : Nat)))
theorem TabQ.below {w w1 : World} (h : TabQ w) (hb : Below w.heap.size w w1) : TabQ w1 := ⟨fun j hj => pw_cell_below hb (h.out j hj)⟩
theorem TabQ.drewN {w : World} (h : TabQ w) (n : Nat) : TabQ (w.drewN n) := ⟨h.out⟩
theorem TabQ.drawn {w w1 : World} (h : TabQ w) (hd : Drawn0 w w1) : TabQ w1 := h.below hd.below

def crc_More.f (s : Int) (l : List Int) : Option Int := if okB l = true ∧ 0 ≤ s ∧ s < 4294967296 then some ((CrcMath.more s.toNat l : Nat) : Int) else none
def crc_Sum.f (l : List Int) : Option Int := if okB l = true then some ((CrcMath.more 0 l : Nat) : Int) else none

theorem nat_take (l : List Int) (k : Nat) (hk : k < l.length) : CrcMath.nat (l.take (k + 1)) = CrcMath.nat (l.take k) ++ [(rd l (k : Int)).toNat] := by
  have e : rd l (k : Int) = l[k] := by simp [rd, List.getD_eq_getElem?_getD, List.getElem?_eq_getElem hk]
  rw [List.take_succ_eq_append_getElem hk, e]
  unfold CrcMath.nat
  rw [List.map_append]
  rfl
theorem run_take (r : Nat) (l : List Int) (k : Nat) (hk : k < l.length) : CrcMath.run r (CrcMath.nat (l.take (k + 1))) = CrcMath.eight (CrcMath.run r (CrcMath.nat (l.take k)) ^^^ (rd l (k : Int)).toNat) := by
  rw [nat_take l k hk, CrcMath.run_append]
  rfl
theorem take_byte {l : List Int} (hl : okB l = true) (k : Nat) : ∀ x ∈ l.take k, 0 ≤ x ∧ x < 256 := fun x hx => okB_iff.1 hl x (List.mem_of_mem_take hx)
theorem xor32 (a b : Nat) (ha : a < 4294967296) (hb : b < 4294967296) : Go.bits .xor .u32 (a : Int) (b : Int) = ((a ^^^ b : Nat) : Int) := u32_xor_nat a b ha hb
theorem quarter_lt (j : Nat) : CrcMath.quarter j < 4294967296 := by unfold CrcMath.quarter; split <;> decide
/-- so many double steps -/
def twos : Nat → Nat → Nat
  | 0, r => r
  | n + 1, r => CrcMath.two (twos n r)
theorem two_lt {r : Nat} (h : r < 4294967296) : CrcMath.two r < 4294967296 := by rw [CrcMath.two_eq]; exact CrcMath.one_lt (CrcMath.one_lt h)
theorem twos_lt {r : Nat} (h : r < 4294967296) : ∀ n, twos n r < 4294967296
  | 0 => h
  | n + 1 => two_lt (twos_lt h n)
theorem twos4 (r : Nat) : twos 4 r = CrcMath.eight r := CrcMath.four_two r

def inv32 (n : Int) : Int := Go.bits .xor .u32 4294967295 n
theorem inv32_nat (S : Nat) (h : S < 4294967296) : inv32 (S : Int) = ((CrcMath.inv S : Nat) : Int) := by
  unfold inv32
  have := u32_xor_nat 4294967295 S (by omega) h
  rw [CrcMath.inv_def]
  exact this
theorem unary_xor_u32 (n : Int) : Op.unary .xor (.int .u32 n) = pure (.int .u32 (inv32 n)) := rfl
attribute [local go_sem high] unary_xor_u32
set_option maxHeartbeats 1000000 in
set_option maxRecDepth 100000 in
theorem crc_More.calls (a0 : Int) (A1 : Option Addr) (c1 : Nat) (l1 : List Int) (r : Int) (w : World) (hr1 : Kd.C (Kd.int .u8) w A1 l1.length l1) (hc1 : l1.length ≤ c1) (hT : TabQ w) (h : crc_More.f a0 l1 = some r) :
    Calls Tryd.prog 12 #[.int .u32 a0, .slice A1 l1.length c1] w fun e w' => e = .returned (.int .u32 r) ∧ Drawn0 w w' := by
  have HR := Aside0.mk hr1
  have hlen : l1.length ≤ 9223372036854775807 := Kd.C_max hr1
  clear hr1 hc1
  unfold crc_More.f at h
  split at h
  case isFalse => cases h
  case isTrue hok =>
  obtain rfl := Option.some.inj h
  clear h
  obtain ⟨hb, h0, h1⟩ := hok
  obtain ⟨S, rfl⟩ := Int.eq_ofNat_of_zero_le h0
  rw [Int.toNat_natCast]
  have hi := inv32_nat S (by omega)
  clear h0
  go_enter Tryd.func12, Tryd.ntmps12
  go_wp2
  have hl : (CrcMath.inv S) < 4294967296 := CrcMath.inv_lt (by omega)
  go_loop [5, 12] (fun r i => ∃ k : Nat, k ≤ l1.length ∧ i = .int .i64 k ∧ r = .int .u32 (CrcMath.run (CrcMath.inv S) (CrcMath.nat (l1.take k)) : Nat)) (fun _ i => l1.length - (intOf i).toNat)
  case atStart => exact ⟨0, Nat.zero_le _, rfl, rfl⟩
  case round =>
    obtain ⟨k, hk, rfl, rfl⟩ := hrel
    by_cases hlt : k < l1.length
    · obtain ⟨ad, rfl, hc⟩ := Kd.at_int HR.out (k : Int) (by omega) (by omega)
      rw [Int.toNat_natCast] at hc
      have hx := okB_iff.1 hb _ (rd_mem l1 k hlt)
      have HT := Aside0.mk (run_take (CrcMath.inv S) l1 k hlt)
      have hR := CrcMath.run_lt hl (CrcMath.nat_byte (take_byte hb k))
      generalize CrcMath.run (CrcMath.inv S) (CrcMath.nat (l1.take k)) = R at hR HT ⊢
      obtain ⟨X, hX⟩ := Int.eq_ofNat_of_zero_le hx.1
      rw [hX] at hc hx HT
      rw [Int.toNat_natCast] at HT
      clear hX
      have hw : IntKind.u32.wrap (X : Int) = (X : Int) := by rw [IntKind.wrap_u32]; omega
      have hxor := xor32 R X hR (by omega)
      have hL : R ^^^ X < 4294967296 := Nat.xor_lt_two_pow (n := 32) hR (by omega)
      go_wp2
      generalize R ^^^ X = Y at hL HT hxor ⊢
      clear hxor hw hc hx hR
      go_loop [5, 20] (fun r i => ∃ j : Nat, j ≤ 4 ∧ i = .int .i64 j ∧ r = .int .u32 (twos j Y : Nat)) (fun _ i => 4 - (intOf i).toNat)
      case atStart => exact ⟨0, by omega, rfl, rfl⟩
      case round =>
        obtain ⟨j, hj, rfl, rfl⟩ := hrel
        have hT' := twos_lt hL j
        by_cases hj4 : j < 4
        · have HN : Aside0 (twos (j + 1) Y = CrcMath.two (twos j Y)) := ⟨rfl⟩
          generalize twos j Y = Z at hT' HN ⊢
          have hq := hT.out (Z % 4) (Nat.mod_lt _ (by omega))
          have ha : Go.bits .and .u32 (Z : Int) 3 = ((Z % 4 : Nat) : Int) := by
            rw [show (3 : Int) = ((3 : Nat) : Int) from rfl, u32_and_nat Z 3 hT' (by omega), nat_mask2]
          have hxor : Go.bits .xor .u32 ((Z : Int) / 4) ((CrcMath.quarter (Z % 4) : Nat) : Int) = ((CrcMath.two Z : Nat) : Int) := by
            rw [show (Z : Int) / 4 = ((Z / 4 : Nat) : Int) from by omega]
            exact xor32 (Z / 4) (CrcMath.quarter (Z % 4)) (by omega) (quarter_lt _)
          generalize CrcMath.two Z = M at hxor HN
          have hi4 : Z % 4 < 4 := Nat.mod_lt _ (by omega)
          have hq4 := quarter_lt (Z % 4)
          generalize CrcMath.quarter (Z % 4) = q at hq hxor hq4
          generalize Z % 4 = i at hq ha hi4
          have h0 : (0 : Int) ≤ (i : Int) := by omega
          have h4 : (i : Int) < 4 := by omega
          have HH := Aside0.mk hq4
          have HZ := Aside0.mk hT'
          clear hi4 hq4 hT' hL h1 hl hi hj
          go_wp2
          go_round
          case rel => exact ⟨j + 1, by omega, by go_num, by rw [HN.out]⟩
          case measure => simp [intOf]; omega
        · obtain rfl : j = 4 := by omega
          go_wp2
          go_round
          case rel => exact ⟨k + 1, by omega, by go_num, by rw [HT.out, twos4]⟩
          case measure => simp [intOf]; omega
    · obtain rfl : k = l1.length := by omega
      have hfin : inv32 ((CrcMath.run (CrcMath.inv S) (CrcMath.nat l1) : Nat) : Int) = ((CrcMath.more S l1 : Nat) : Int) := inv32_nat _ (CrcMath.run_lt hl (CrcMath.nat_byte (okB_iff.1 hb)))
      go_wp2
      go_ret
      exact ⟨rfl, Drawn0.refl _⟩

theorem crc_Sum.calls (A0 : Option Addr) (c0 : Nat) (l0 : List Int) (r : Int) (w : World) (hr0 : Kd.C (Kd.int .u8) w A0 l0.length l0) (hc0 : l0.length ≤ c0) (hT : TabQ w) (h : crc_Sum.f l0 = some r) :
    Calls Tryd.prog 13 #[.slice A0 l0.length c0] w fun e w' => e = .returned (.int .u32 r) ∧ Drawn0 w w' := by
  have hm : crc_More.f 0 l0 = some r := by
    unfold crc_Sum.f at h
    unfold crc_More.f
    split at h
    · rename_i hb
      rw [if_pos ⟨hb, by omega, by omega⟩]
      exact h
    · cases h
  have HR := Aside0.mk hr0
  have HM := Aside0.mk hm
  have HC := Aside0.mk hc0
  clear hr0 hm hc0 h
  go_enter Tryd.func13, Tryd.ntmps13
  go_wp2_with fail
  refine (crc_More.calls _ _ _ _ _ _ HR.out HC.out hT HM.out).mono ?_
  rintro e w1 ⟨rfl, ⟨n1, rfl⟩⟩
  go_wp2
  go_ret
  exact ⟨rfl, ⟨n1, rfl⟩⟩
theorem crc_Sum.calls_at {n : Nat} (A0 : Option Addr) (c0 : Nat) (l0 : List Int) (r : Int) (w : World) (hn : l0.length = n) (hr0 : Kd.C (Kd.int .u8) w A0 n l0) (hc0 : n ≤ c0) (hT : TabQ w) (h : crc_Sum.f l0 = some r) :
    Calls Tryd.prog 13 #[.slice A0 n c0] w fun e w' => e = .returned (.int .u32 r) ∧ Drawn0 w w' := by
  subst hn
  exact crc_Sum.calls A0 c0 l0 r w hr0 hc0 hT h
end Go.Proofs.YtmaoleabfmokpaaDoor.G

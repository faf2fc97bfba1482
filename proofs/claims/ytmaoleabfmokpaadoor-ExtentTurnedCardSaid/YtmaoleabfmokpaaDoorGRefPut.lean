/- The contracts of the reference's Put and Get: the same functions as the program's. -/
import Derived.Test.YtmaoleabfmokpaaDoorGPut
import Derived.Test.YtmaoleabfmokpaaDoorGGet
namespace Go.Proofs.YtmaoleabfmokpaaDoor.G
open Go.RowKit Go.Proofs.YtmaoleabfmokpaaDoorW.PrintWords Go.Proofs.YtmaoleabfmokpaaDoorW.PrintLast Go.Proofs.YtmaoleabfmokpaaDoorW.PrintMore
set_option linter.unusedVariables false
set_option linter.unusedSimpArgs false
attribute [local go_sem] max2_int min2_int max_two min_two

def dryrotref01_Put.f (a0 a1 : Int) : Option (List Int) := crc_Put.f a0 a1
def dryrotref01_Get.f (l : List Int) : Option (Int × Bool) := crc_Get.f l

set_option maxHeartbeats 800000 in
set_option maxRecDepth 100000 in
theorem dryrotref01_Put.calls (a0 a1 : Int) (r : List Int) (w : World) (h : dryrotref01_Put.f a0 a1 = some r) :
    Calls Tryd.prog 22 #[.int .u64 a0, .int .i64 a1] w fun e w' => ∃ v0_ : Value, e = .returned (v0_) ∧ Kd.R (Kd.int .u8) 5 w' w.heap.size (fun _ => True) v0_ r ∧ Below w.heap.size w w' := by
  unfold dryrotref01_Put.f crc_Put.f at h
  split at h
  case isFalse => cases h
  case isTrue hN =>
    obtain rfl := Option.some.inj h
    clear h
    obtain ⟨N, rfl⟩ := Int.eq_ofNat_of_zero_le hN.1
    rw [Int.toNat_natCast]
    obtain ⟨j, hj⟩ : ∃ j : Int, (if a1 < 0 then 0 else a1) = j := ⟨_, rfl⟩
    obtain ⟨m, hm8, hm, hw⟩ : ∃ m : Nat, m ≤ 8 ∧ (if 8 < j then 8 else j) = (m : Int) ∧ wid a1 = m := ⟨wid a1, wid_le _, by unfold wid; split at hj <;> split <;> omega, rfl⟩
    rw [hw]
    clear hw
    have hm0 : (m : Int) ≤ 8 := by omega
    go_enter Tryd.func22, Tryd.ntmps22
    go_wp2_with ((with_reducible refine gate_dst (N := 12) rfl ?_); refine Kd.R_make (Kd.int .u8) _ 5 rfl (N := 12) rfl 22 _ _ rfl (m : Int) rfl rfl Tryd.underlying22 (.int .u8 0) 1 infoU8 rfl (by decide) (by omega) 0 (ok := fun _ => True) (okp := fun _ => True) rfl (fun _ hk => hk) trivial (by omega) (by omega) (Below.refl _ _) (Nat.le_refl _) ?_; intro v103 w7 ho8 hb hg_ hnew_; rw [Int.toNat_natCast] at ho8; obtain ⟨g, c9, e9, hgb⟩ := made_form ho8 hnew_; rw [List.length_replicate] at e9; subst e9; have HO := Aside0.mk ho8; have HB := Aside0.mk hb; clear ho8 hb hg_ hnew_)
    clear hm hj
    go_loopw [0, 7] (fun n i wr => ∃ k : Nat, k ≤ m ∧ i = .int .i64 ((m : Int) - 1 - (k : Int)) ∧ n = .int .u64 ((N / 256 ^ k : Nat) : Int) ∧ Aside0 (Kd.R (Kd.int .u8) 5 wr w.heap.size (fun _ => True) (.slice (some ⟨g, 0, none⟩) m c9) (List.replicate (m - k) 0 ++ beL N k)) ∧ Aside0 (Below w.heap.size w wr)) (fun _ i _ => (intOf i + 1).toNat)
    case atStart => exact ⟨0, Nat.zero_le _, by simp, by simp, ⟨by simpa [beL] using HO.out⟩, HB⟩
    case round =>
      clear HO HB
      obtain ⟨k, hk, rfl, rfl, HO, HB⟩ := hrel
      have HS := fun hlt => Aside0.mk (crc_Put.step (N := N) (k := k) (m := m) hlt)
      have HD := Aside0.mk (Nat.div_div_eq_div_mul N (256 ^ k) 256)
      have HL := Aside0.mk (show N / 256 ^ k ≤ N from Nat.div_le_self _ _)
      generalize N / 256 ^ k = M at HS HD HL ⊢
      by_cases hlt : k < m
      · obtain ⟨hc, hf⟩ := Kd.R_celln 0 HO.out ((m - 1 - k : Nat) : Int) (by omega) (by omega)
        have HP := Aside0.mk (Kd.R_putg HO.out ((m - 1 - k : Nat) : Int) ((M % 256 : Nat) : Int))
        rw [Int.toNat_natCast] at hc hf HP
        have HS := HS hlt
        have hM : (0 : Int) ≤ (M : Int) := by omega
        have h0 : (0 : Int) ≤ (m : Int) - 1 - (k : Int) := by omega
        go_wp2
        go_roundw
        case rel =>
          refine ⟨k + 1, by omega, congrArg _ (by omega), congrArg _ ?_, ⟨?_⟩, ⟨?_⟩⟩
          · rw [Nat.pow_succ, ← HD.out]
            have := HL.out
            simp [IntKind.wrap, IntKind.bits, IntKind.signed]
            omega
          · rw [← HS.out]
            exact HP.out.1
          · exact below_set HB.out (by omega)
        case measure => simp [intOf]; omega
      · obtain rfl : k = m := by omega
        have h0 : ¬ ((0 : Int) ≤ (k : Int) - 1 - (k : Int)) := by omega
        go_wp2
        go_ret
        exact ⟨_, rfl, by simpa using HO.out, HB.out⟩

set_option maxHeartbeats 800000 in
set_option maxRecDepth 100000 in
theorem dryrotref01_Get.calls (A0 : Option Addr) (c0 : Nat) (l0 : List Int) (r1 : Int) (r2 : Bool) (w : World) (hr0 : Kd.C (Kd.int .u8) w A0 l0.length l0) (hc0 : l0.length ≤ c0) (h : dryrotref01_Get.f l0 = some (r1, r2)) :
    Calls Tryd.prog 20 #[.slice A0 l0.length c0] w fun e w' => e = .returned (.tuple #[.int .u64 r1, .bool r2]) ∧ Drawn0 w w' := by
  have HR := Aside0.mk hr0
  clear hr0 hc0
  unfold dryrotref01_Get.f crc_Get.f at h
  split at h
  case isFalse => cases h
  case isTrue hok =>
  by_cases hl : 1 ≤ l0.length ∧ l0.length ≤ 8
  case neg =>
    rw [if_neg hl] at h
    simp only [Option.some.injEq, Prod.mk.injEq] at h
    obtain ⟨rfl, rfl⟩ := h
    by_cases h0 : l0.length = 0
    · have e0 : decide ((l0.length : Int) < 1) = true := decide_eq_true (by omega)
      clear hl h0
      go_enter Tryd.func20, Tryd.ntmps20
      go_wp2
      go_ret2
      exact ⟨rfl, Drawn0.refl _⟩
    · have e0 : decide ((l0.length : Int) < 1) = false := decide_eq_false (by omega)
      have e1 : decide ((8 : Int) < (l0.length : Int)) = true := decide_eq_true (by omega)
      clear hl h0
      go_enter Tryd.func20, Tryd.ntmps20
      go_wp2
      go_ret2
      exact ⟨rfl, Drawn0.refl _⟩
  case pos =>
    rw [if_pos hl] at h
    simp only [Option.some.injEq, Prod.mk.injEq] at h
    obtain ⟨rfl, rfl⟩ := h
    have e0 : decide ((l0.length : Int) < 1) = false := decide_eq_false (by omega)
    have e1 : decide ((8 : Int) < (l0.length : Int)) = false := decide_eq_false (by omega)
    go_enter Tryd.func20, Tryd.ntmps20
    go_wp2
    go_loop [4, 17] (fun n i => ∃ k : Nat, k ≤ l0.length ∧ i = .int .i64 k ∧ n = .int .u64 (beV 0 (l0.take k) : Nat)) (fun _ i => l0.length - (intOf i).toNat)
    case atStart => exact ⟨0, Nat.zero_le _, rfl, rfl⟩
    case round =>
      obtain ⟨k, hk, rfl, rfl⟩ := hrel
      by_cases hlt : k < l0.length
      · obtain ⟨ad, rfl, hc⟩ := Kd.at_int HR.out (k : Int) (by omega) (by omega)
        rw [Int.toNat_natCast] at hc
        have hx := okB_iff.1 hok _ (rd_mem l0 k hlt)
        have HT := Aside0.mk (beV_take l0 k hlt)
        have hV := beV_take_lt hok k
        have HV := Aside0.mk (Nat.lt_of_lt_of_le hV (Nat.pow_le_pow_right (n := 256) (by decide) (show k ≤ 7 by omega)))
        have HX := Aside0.mk hx
        clear hV hx
        go_wp2
        go_round
        case rel =>
          refine ⟨k + 1, by omega, by go_num, congrArg _ ?_⟩
          have := HV.out
          have := HX.out
          rw [HT.out]
          simp [IntKind.wrap, IntKind.bits, IntKind.signed]
          omega
        case measure => simp [intOf]; omega
      · obtain rfl : k = l0.length := by omega
        go_wp2
        go_ret2
        exact ⟨rfl, Drawn0.refl _⟩
end Go.Proofs.YtmaoleabfmokpaaDoor.G

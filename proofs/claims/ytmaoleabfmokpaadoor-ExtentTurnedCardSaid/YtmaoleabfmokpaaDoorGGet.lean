/- The contract of crc.Get: what one to eight bytes say. -/
import Derived.Test.YtmaoleabfmokpaaDoorGBase
namespace Go.Proofs.YtmaoleabfmokpaaDoor.G
open Go.RowKit Go.Proofs.YtmaoleabfmokpaaDoorW.PrintWords Go.Proofs.YtmaoleabfmokpaaDoorW.PrintLast Go.Proofs.YtmaoleabfmokpaaDoorW.PrintMore
set_option linter.unusedVariables false
set_option linter.unusedSimpArgs false

def crc_Get.f (l : List Int) : Option (Int × Bool) := if okB l = true then (if 1 ≤ l.length ∧ l.length ≤ 8 then some ((beV 0 l : Nat), true) else some (0, false)) else none

theorem beV_take (l : List Int) (k : Nat) (hk : k < l.length) : beV 0 (l.take (k + 1)) = beV 0 (l.take k) * 256 + (rd l (k : Int)).toNat := by
  have e : rd l (k : Int) = l[k] := by simp [rd, List.getD_eq_getElem?_getD, List.getElem?_eq_getElem hk]
  rw [List.take_succ_eq_append_getElem hk, e]
  unfold beV
  rw [List.foldl_append]
  rfl
theorem beV_take_lt {l : List Int} (hl : okB l = true) (k : Nat) : beV 0 (l.take k) < 256 ^ k := by
  have h := beV_lt (l.take k) (fun x hx => okB_iff.1 hl x (List.mem_of_mem_take hx)) 0 0 (by simp)
  refine Nat.lt_of_lt_of_le h (Nat.pow_le_pow_right (by decide) ?_)
  rw [List.length_take]
  omega

set_option maxHeartbeats 800000 in
set_option maxRecDepth 100000 in
theorem crc_Get.calls (A0 : Option Addr) (c0 : Nat) (l0 : List Int) (r1 : Int) (r2 : Bool) (w : World) (hr0 : Kd.C (Kd.int .u8) w A0 l0.length l0) (hc0 : l0.length ≤ c0) (h : crc_Get.f l0 = some (r1, r2)) :
    Calls Tryd.prog 19 #[.slice A0 l0.length c0] w fun e w' => e = .returned (.tuple #[.int .u64 r1, .bool r2]) ∧ Drawn0 w w' := by
  have HR := Aside0.mk hr0
  clear hr0 hc0
  unfold crc_Get.f at h
  split at h
  case isFalse => cases h
  case isTrue hok =>
  by_cases hl : 1 ≤ l0.length ∧ l0.length ≤ 8
  case neg =>
    rw [if_neg hl] at h
    simp only [Option.some.injEq, Prod.mk.injEq] at h
    obtain ⟨rfl, rfl⟩ := h
    by_cases h0 : l0.length = 0
    · have e0 : ((l0.length : Int) == 0) = true := beq_iff_eq.2 (by omega)
      clear hl h0
      go_enter Tryd.func19, Tryd.ntmps19
      go_wp2
      go_ret2
      exact ⟨rfl, Drawn0.refl _⟩
    · have e0 : ((l0.length : Int) == 0) = false := beq_eq_false_iff_ne.2 (by omega)
      have e1 : decide ((8 : Int) < (l0.length : Int)) = true := decide_eq_true (by omega)
      clear hl h0
      go_enter Tryd.func19, Tryd.ntmps19
      go_wp2
      go_ret2
      exact ⟨rfl, Drawn0.refl _⟩
  case pos =>
    rw [if_pos hl] at h
    simp only [Option.some.injEq, Prod.mk.injEq] at h
    obtain ⟨rfl, rfl⟩ := h
    have e0 : ((l0.length : Int) == 0) = false := beq_eq_false_iff_ne.2 (by omega)
    have e1 : decide ((8 : Int) < (l0.length : Int)) = false := decide_eq_false (by omega)
    go_enter Tryd.func19, Tryd.ntmps19
    go_wp2
    go_loop [4, 17] (fun n i => ∃ k : Nat, k ≤ l0.length ∧ i = .int .i64 k ∧ n = .int .u64 (beV 0 (l0.take k) : Nat)) (fun _ i => l0.length - (intOf i).toNat)
    case atStart => exact ⟨0, Nat.zero_le _, rfl, rfl⟩
    case round =>
      obtain ⟨k, hk, rfl, rfl⟩ := hrel
      by_cases hlt : k < l0.length
      · obtain ⟨ad, rfl, hc⟩ := Kd.at_int HR.out (k : Int) (by omega) (by omega)
        rw [Int.toNat_natCast] at hc
        have hx := okB_iff.1 hok _ (rd_mem l0 k hlt)
        have HT := Aside0.mk (beV_take l0 k hlt)
        have hV := beV_take_lt hok k
        have h7 : beV 0 (l0.take k) < 256 ^ 7 := Nat.lt_of_lt_of_le hV (Nat.pow_le_pow_right (by decide) (by omega))
        have HO := Aside0.mk (or8 _ _ h7 hx.1 hx.2)
        have HV := Aside0.mk h7
        clear hV h7 hx
        go_wp2
        go_round
        case rel => exact ⟨k + 1, by omega, by go_num, by rw [HT.out, ← HO.out]⟩
        case measure => simp [intOf]; omega
      · obtain rfl : k = l0.length := by omega
        go_wp2
        go_ret2
        exact ⟨rfl, Drawn0.refl _⟩
end Go.Proofs.YtmaoleabfmokpaaDoor.G

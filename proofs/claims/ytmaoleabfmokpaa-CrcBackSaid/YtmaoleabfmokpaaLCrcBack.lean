/- The law CrcBack answers true for every number and every width: a number put into eight bytes is read back, put into fewer its lowest bytes are. No condition.
   The row's frame is the guide's shell for a law over integers; the walk goes by the contracts of crc.Put and crc.Get. -/
import Derived.Test.YtmaoleabfmokpaaRows
import Derived.WalkKit
import Derived.ProofKit
import Derived.OpenShut
import Derived.Test.YtmaoleabfmokpaaGPut
import Derived.Test.YtmaoleabfmokpaaGGet
import Derived.Test.YtmaoleabfmokpaaGRow
namespace Go.Proofs.Ytmaoleabfmokpaa.crcBack
open Go.ChangeShapes Go.WideShapes Go.ChangeAt Go.RowKit
set_option linter.unusedVariables false      -- a walk need not use every 'w<i>' (that an integer argument fits its kind)

theorem own : ownKnob Try.prog.godebug = none := by kernel_rfl


open Go.Proofs.Ytmaoleabfmokpaa.G Go.Proofs.YtmaoleabfmokpaaW.PrintWords Go.Proofs.YtmaoleabfmokpaaW.PrintMore
theorem u64_bd {n : Int} (h : (Lit.int .u64 n).wf = true) : 0 ≤ n ∧ n ≤ 18446744073709551615 := by
  simpa [Lit.wf, IntKind.min, IntKind.max, IntKind.signed, IntKind.bits] using h
theorem put_f (N m : Nat) (hN : (N : Int) < 18446744073709551616) (hm : m ≤ 8) : crc_Put.f (N : Int) (m : Int) = some (beL N m) := by
  unfold crc_Put.f
  rw [if_pos (by omega), Int.toNat_natCast]
  have : wid (m : Int) = m := by unfold wid; omega
  rw [this]
theorem back (N m : Nat) (h1 : 1 ≤ m) (h8 : m ≤ 8) : crc_Get.f (beL N m) = some (((N % 256 ^ m : Nat) : Int), true) := by
  unfold crc_Get.f
  rw [if_pos (okB_beL N m), beL_length, if_pos ⟨h1, h8⟩, beV_beL]
  simp
theorem shift_back (N m : Nat) (h8 : m ≤ 8) : (((N % 256 ^ m : Nat) : Int) == IntKind.u64.wrap ((N : Int) * 2 ^ (64 - 8 * m)) / 2 ^ (64 - 8 * m)) = true := by
  obtain ⟨q, hq⟩ : ∃ q, 64 - 8 * m = q := ⟨_, rfl⟩
  rw [hq]
  have hp : (256 : Nat) ^ m * 2 ^ q = 18446744073709551616 := by
    have : (256 : Nat) = 2 ^ 8 := by decide
    rw [this, ← Nat.pow_mul, ← Nat.pow_add, show 8 * m + q = 64 from by omega]
  have hwr : IntKind.u64.wrap ((N : Int) * 2 ^ q) = ((N * 2 ^ q % 18446744073709551616 : Nat) : Int) := by
    simp [IntKind.wrap, IntKind.bits, IntKind.signed]
  rw [hwr, ← hp, Nat.mul_mod_mul_right]
  have : ((2 : Int) ^ q) = ((2 ^ q : Nat) : Int) := by simp
  rw [this, ← Int.natCast_ediv, Nat.mul_div_cancel _ (Nat.pow_pos (by decide))]
  simp
theorem back8 (N : Nat) (h : (N : Int) < 18446744073709551616) : crc_Get.f (beL N 8) = some ((N : Int), true) := by
  rw [back N 8 (by omega) (by omega), Nat.mod_eq_of_lt (by omega)]
set_option maxHeartbeats 800000 in
set_option maxRecDepth 100000 in
theorem walk (a0 : Int) (a1 : Int) (w0 : (Lit.int .u64 a0).wf = true) (w1 : (Lit.int .i64 a1).wf = true) (w : World) :
    Calls Try.prog 3 #[.int .u64 a0, .int .i64 a1] w fun e w' => e = .returned (.bool true) ∧ Below w.heap.size w w' := by
  have hb := u64_bd w0
  obtain ⟨N, rfl⟩ := Int.eq_ofNat_of_zero_le hb.1
  have hu : 0 ≤ IntKind.u64.wrap a1 := by simp [IntKind.wrap, IntKind.bits, IntKind.signed]; omega
  obtain ⟨U, hU⟩ := Int.eq_ofNat_of_zero_le hu
  clear hu w0 w1
  have hp8 : crc_Put.f (N : Int) 8 = some (beL N 8) := by
    unfold crc_Put.f
    rw [if_pos (by omega)]
    rfl
  have hP8 := Aside0.mk hp8
  clear hp8
  go_enter Try.func3, Try.ntmps3
  go_wp2_with fail
  refine (crc_Put.calls _ _ _ _ hP8.out).mono ?_
  rintro e w1 ⟨v1, rfl, hR1, hB1⟩
  obtain ⟨A1, c1, rfl, hl1, hC1⟩ := Kd.R_reads hR1
  have HB1 := Aside0.mk hB1
  have HC1 := Aside0.mk hC1
  have HL1 := Aside0.mk hl1
  clear hR1 hB1 hl1 hC1 hP8
  go_wp2_with fail
  refine (crc_Get.calls _ _ _ _ _ _ HC1.out HL1.out (back8 N (by omega))).mono ?_
  rintro e w2 ⟨rfl, ⟨n2, rfl⟩⟩
  go_wp2_with fail
  have hm : ((1 + U % 8 : Nat) : Int) = 1 + (U : Int) % 8 := by omega
  rw [← hm]
  have hm1 : 1 ≤ 1 + U % 8 := by omega
  have hm8 : 1 + U % 8 ≤ 8 := by omega
  generalize 1 + U % 8 = m at hm1 hm8 ⊢
  refine (crc_Put.calls _ _ _ _ (put_f N m (by omega) hm8)).mono ?_
  rintro e w2 ⟨v2, rfl, hR1, hB2⟩
  obtain ⟨A2, c2, rfl, hl1, hC1⟩ := Kd.R_reads hR1
  have HB2 := Aside0.mk (below_then (pw_below_drewN HB1.out n2) (by simpa using HB1.out.size) hB2)
  have HC2 := Aside0.mk hC1
  have HL2 := Aside0.mk hl1
  clear hR1 hB2 hl1 hC1 HB1 HC1 HL1
  go_wp2_with fail
  obtain ⟨X, hX⟩ : ∃ X, N % 256 ^ m = X := ⟨_, rfl⟩
  have hg := back N m hm1 hm8
  rw [hX] at hg
  have HG := Aside0.mk hg
  have HX := Aside0.mk hX
  clear hg hX hm
  refine (crc_Get.calls _ _ _ _ _ _ HC2.out HL2.out HG.out).mono ?_
  rintro e w3 ⟨rfl, ⟨n3, rfl⟩⟩
  have HS := Aside0.mk (shift_back N m hm8)
  rw [HX.out] at HS
  go_wp2
  go_ret
  exact ⟨ret_bool HS.out, pw_below_drewN HB2.out n3⟩

/-! ### THE ROW's STEP: WRITTEN OUT: LEAVE IT -/
set_option maxRecDepth 100000 in
theorem lifted (os : Os) (started : os.Started) (H : Type) (enc : TypeId × Value → H) :
    ReturnsInHanded {} Try.checked os 3 .any (Rows.crcBackSpec.pre6 enc Try.prog Try.f3 Rows.crcBackRow.domain false) (Rows.crcBackSpec.post enc Try.prog Try.f3 false true false false) := by
  refine returnsInHanded_of_change (C := Try.checked) own started (by kernel_rfl) Try.func3
    (ChangeSpec.witness6 (enc := enc) (C := Try.checked) false ⟨#[], #[.int .u64 0, .int .i64 0], []⟩ 8 (by kernel_rfl) (by kernel_rfl) (by kernel_rfl) (by kernel_rfl)) ?_
  intro W base args ds gs before hval0 hW hcnd _
  have hval : ∀ (j : Nat) t v, Try.f3.params[j]? = some t → args[j]? = some v → Value.okWide Try.prog W .any base t v := hval0
  have hW' := hW
  obtain ⟨p, q, hA0, hV, rfl, hfz, hnd⟩ := hW
  have hA : DataW.TrodAll enc Try.prog W 0 (fun _ => true) true Try.f3.params.toList args.toList ds p := hA0
  rw [Try.params3] at hA hval
  obtain ⟨v0, vs0, d0, ds0, p0, q0, hargs, rfl, rfl, h0, r0⟩ := trodAll_cons hA
  obtain ⟨v1, vs1, d1, ds1, p1, q1, rfl, rfl, rfl, h1, r1⟩ := trodAll_cons r0
  obtain ⟨rfl, rfl, rfl⟩ := trodAll_nil r1
  obtain rfl : args = #[v0, v1] := by cases args; simp_all
  obtain ⟨rfl, rfl⟩ := trodVars_none hV
  obtain ⟨a0, rfl, rfl, rfl, w0⟩ := open_int Try.underlying22 (hval 0 22 v0 rfl rfl) h0
  obtain ⟨a1, rfl, rfl, rfl, w1⟩ := open_int Try.underlying3 (hval 1 3 v1 rfl rfl) h1
  clear hA0 hval0
  simp only [List.append_nil] at hW'
  refine (walk a0 a1 w0 w1 W).mono fun e W' ⟨he, hg⟩ => ?_
  subst he
  exact ⟨_, rfl, post_of_below (pa := []) (pv := []) hW' (fun _ _ _ => (trodAll_cons_mk (shut_bool Try.underlying4 _) trodAll_mk0)) (fun sp _ => (trodAll_cons_mk (shut_int Try.underlying22 w0) (trodAll_cons_mk (shut_int Try.underlying3 w1) trodAll_mk0))) (fun _ _ => rfl) rfl
    hg (ok_one (by kernel_rfl) rfl (okWide_bool_mk Try.underlying4 _))⟩

theorem over : Rows.crcBackRow.holds Try.pinned (OpenSpec.ofChange Rows.crcBackSpec) :=
  OpenClaim.holds_of_wide 3 Try.f3 rfl rfl rfl rfl rfl rfl rfl ⟨rfl, rfl, rfl, rfl, rfl⟩ rfl rfl rfl rfl rfl (by kernel_rfl) Try.func3 (by kernel_rfl)
    (of_decide_eq_true (by kernel_rfl)) (by unfold Func.isWrapper; first | (rw [if_pos (by decide +kernel)]; kernel_rfl) | (rw [if_neg (by decide +kernel)]; exact ⟨rfl, rfl⟩))
    (fun os started H enc _ => lifted os started H enc)

/-- ████ THE STATEMENT ████ -/
theorem proved : Rows.CrcBackSaid :=
  over
#print axioms proved
end Go.Proofs.Ytmaoleabfmokpaa.crcBack

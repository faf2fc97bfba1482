/- The law CrcNumbers answers true for every number, width and bytes: the program's Put and Get are the reference's. No condition; the table of crc lies as its text lays it. -/
import Derived.Test.YtmaoleabfmokpaaDoorGAwake01
import Derived.Test.YtmaoleabfmokpaaDoorGRefPut
namespace Go.Proofs.YtmaoleabfmokpaaDoor.G
open Go.RowKit Go.Proofs.YtmaoleabfmokpaaDoorW.PrintWords Go.Proofs.YtmaoleabfmokpaaDoorW.PrintLast Go.Proofs.YtmaoleabfmokpaaDoorW.PrintMore
set_option linter.unusedVariables false
set_option linter.unusedSimpArgs false
set_option maxHeartbeats 1000000 in
set_option maxRecDepth 100000 in
theorem CrcNumbers.walk (a0 a1 : Int) (A2 : Option Addr) (c2 : Nat) (l2 : List Int) (w : World) (w0 : (Lit.int .u64 a0).wf = true) (w1 : (Lit.int .i64 a1).wf = true)
    (hr2 : Kd.C (Kd.int .u8) w A2 l2.length l2) (hc2 : l2.length ≤ c2) (hw2 : ∀ x ∈ l2, (Lit.int .u8 x).wf = true) (hs2 : l2.length * 1 ≤ 140737488351232) (hT : TabQ w) :
    Calls Tryd.prog 6 #[.int .u64 a0, .int .i64 a1, .slice A2 l2.length c2] w fun e w' => e = .returned (.bool true) ∧ Below w.heap.size w w' := by
  obtain ⟨x, ok, hg⟩ : ∃ x ok, crc_Get.f l2 = some (x, ok) := by
    unfold crc_Get.f
    rw [if_pos (okB_wf hw2)]
    split
    · exact ⟨_, _, rfl⟩
    · exact ⟨_, _, rfl⟩
  obtain ⟨P, hp, hok⟩ : ∃ P, crc_Put.f a0 a1 = some P ∧ okB P = true := ⟨_, if_pos (u64_bd w0), okB_beL _ _⟩
  have HG := Aside0.mk hg
  have HP := Aside0.mk hp
  have HQ := Aside0.mk (bytes_Equal.self hok)
  have HR := Aside0.mk hr2
  have HC := Aside0.mk hc2
  clear hr2 hc2 hw2 hs2 hg hp hok w0 w1
  go_enter Tryd.func6, Tryd.ntmps6
  go_wp2_with fail
  refine (crc_Get.calls _ _ _ _ _ _ HR.out HC.out HG.out).mono ?_
  rintro e w1 ⟨rfl, ⟨n1, rfl⟩⟩
  go_wp2_with fail
  refine (dryrotref01_Get.calls _ _ _ _ _ _ (Kd.C_drewN HR.out n1) HC.out HG.out).mono ?_
  rintro e w2 ⟨rfl, ⟨n2, rfl⟩⟩
  go_wp2_with fail
  refine (crc_Put.calls _ _ _ _ HP.out).mono ?_
  rintro e w3 ⟨v3, rfl, hR3, hB3⟩
  obtain ⟨A3, c3, rfl, hl3, hC3⟩ := Kd.R_reads hR3
  have hT3 := (hT.drewN _).below hB3
  have HC3 := Aside0.mk hC3
  have HL3 := Aside0.mk hl3
  have HB3 : Aside0 (Below w.heap.size w w3) := Aside0.mk (below_then (pw_below_drewN (Below.refl _ _) _) (Nat.le_refl _) hB3)
  clear hR3 hB3 hl3 hC3 hT HR
  go_wp2_with fail
  refine (dryrotref01_Put.calls _ _ _ _ HP.out).mono ?_
  rintro e w4 ⟨v4, rfl, hR4, hB4⟩
  obtain ⟨A4, c4, rfl, hl4, hC4⟩ := Kd.R_reads hR4
  have hT4 := hT3.below hB4
  have HC4 := Aside0.mk hC4
  have HL4 := Aside0.mk hl4
  have HC3' := Aside0.mk (Kd.C_below HC3.out hB4)
  have HB4 := Aside0.mk (below_step HB3.out hB4)
  clear hR4 hB4 hl4 hC4 hT3 HC3 HB3
  go_wp2_with fail
  refine (bytes_Equal.calls _ _ _ _ _ _ _ _ HC3'.out HL3.out HC4.out HL4.out HQ.out).mono ?_
  rintro e w5 ⟨rfl, ⟨n5, rfl⟩⟩
  go_wp2_with fail
  refine (dryrotlaw01_awake.calls _ (hT4.drewN _)).mono ?_
  rintro e w6 ⟨rfl, hB6⟩
  have HB6 := Aside0.mk hB6
  clear hB6
  go_wp2
  go_ret
  exact ⟨rfl, below_step (pw_below_drewN HB4.out _) HB6.out⟩
end Go.Proofs.YtmaoleabfmokpaaDoor.G

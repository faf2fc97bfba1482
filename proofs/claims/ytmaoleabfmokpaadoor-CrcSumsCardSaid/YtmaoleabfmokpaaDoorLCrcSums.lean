/- The law CrcSums answers true for every bytes: the program's sum is the reference's, and the bytes stay. No condition; the table of crc lies as its text lays it. -/
import Derived.Test.YtmaoleabfmokpaaDoorGAwake01
namespace Go.Proofs.YtmaoleabfmokpaaDoor.G
open Go.RowKit Go.Proofs.YtmaoleabfmokpaaDoorW.PrintWords Go.Proofs.YtmaoleabfmokpaaDoorW.PrintLast Go.Proofs.YtmaoleabfmokpaaDoorW.PrintMore
set_option linter.unusedVariables false
set_option linter.unusedSimpArgs false
theorem okB_wf {l : List Int} (h : ∀ x ∈ l, (Lit.int .u8 x).wf = true) : okB l = true := okB_iff.2 fun x hx => by
  have := h x hx
  simp [Lit.wf, IntKind.min, IntKind.max, IntKind.signed, IntKind.bits] at this
  omega
set_option maxHeartbeats 1000000 in
set_option maxRecDepth 100000 in
theorem CrcSums.walk (A0 : Option Addr) (c0 : Nat) (l0 : List Int) (w : World) (hr0 : Kd.C (Kd.int .u8) w A0 l0.length l0) (hc0 : l0.length ≤ c0) (hw0 : ∀ x ∈ l0, (Lit.int .u8 x).wf = true) (hs0 : l0.length * 1 ≤ 140737488351232) (hT : TabQ w) :
    Calls Tryd.prog 5 #[.slice A0 l0.length c0] w fun e w' => e = .returned (.bool true) ∧ Below w.heap.size w w' := by
  have HB := Aside0.mk (okB_wf hw0)
  have HR := Aside0.mk hr0
  have HC := Aside0.mk hc0
  have HS := Aside0.mk hs0
  clear hr0 hc0 hw0 hs0
  go_enter Tryd.func5, Tryd.ntmps5
  go_wp2_with fail
  refine (bytes_Clone.calls _ _ _ _ _ HR.out HC.out (show bytes_Clone.f l0 = some l0 from if_pos (by have := HS.out; omega))).mono ?_
  rintro e w1 ⟨v1, rfl, hR1, hB1⟩
  obtain ⟨A1, c1, rfl, hl1, hC1⟩ := Kd.R_reads hR1
  have hT1 := hT.below hB1
  have HR1 := Aside0.mk hC1
  have HC1 := Aside0.mk hl1
  have HR' := Aside0.mk (Kd.C_below HR.out hB1)
  have HB1 := Aside0.mk hB1
  clear hR1 hB1 hl1 hC1 HR HS hT
  have hs : crc_Sum.f l0 = some ((CrcMath.more 0 l0 : Nat) : Int) := if_pos HB.out
  have hq : bytes_Equal.f l0 l0 = some true := (if_pos ⟨HB.out, HB.out⟩).trans (by simp)
  generalize CrcMath.more 0 l0 = X at hs
  have HS := Aside0.mk hs
  have HQ := Aside0.mk hq
  clear hs hq
  go_wp2_with fail
  refine (crc_Sum.calls _ _ _ _ _ HR1.out HC1.out hT1 HS.out).mono ?_
  rintro e w2 ⟨rfl, ⟨n2, rfl⟩⟩
  go_wp2_with fail
  refine (dryrotref01_Sum.calls _ _ _ _ _ (Kd.C_drewN HR'.out n2) HC.out HS.out).mono ?_
  rintro e w3 ⟨rfl, ⟨n3, rfl⟩⟩
  go_wp2_with fail
  refine (bytes_Equal.calls _ _ _ _ _ _ _ _ (Kd.C_drewN HR1.out _) HC1.out (Kd.C_drewN HR'.out _) HC.out HQ.out).mono ?_
  rintro e w4 ⟨rfl, ⟨n4, rfl⟩⟩
  go_wp2_with fail
  refine (dryrotlaw01_awake.calls _ (hT1.drewN _)).mono ?_
  rintro e w5 ⟨rfl, hB5⟩
  have HB5 := Aside0.mk hB5
  clear hB5
  go_wp2
  go_ret
  exact ⟨rfl, below_step (pw_below_drewN HB1.out _) HB5.out⟩
end Go.Proofs.YtmaoleabfmokpaaDoor.G

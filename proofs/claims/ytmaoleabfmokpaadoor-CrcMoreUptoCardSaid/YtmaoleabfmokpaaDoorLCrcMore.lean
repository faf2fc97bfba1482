/- The law CrcMore answers true for every two bytes and number, where they hold at most 1048576 values: more bytes behind a sum come to the sum of all, as the reference says. The table of crc lies as its text lays it. -/
import Derived.Test.YtmaoleabfmokpaaDoorGAwake01
namespace Go.Proofs.YtmaoleabfmokpaaDoor.G
open Go.RowKit Go.Proofs.YtmaoleabfmokpaaDoorW.PrintWords Go.Proofs.YtmaoleabfmokpaaDoorW.PrintLast Go.Proofs.YtmaoleabfmokpaaDoorW.PrintMore
set_option linter.unusedVariables false
set_option linter.unusedSimpArgs false
set_option maxHeartbeats 1000000 in
set_option maxRecDepth 100000 in
theorem CrcMore.walk (A0 : Option Addr) (c0 : Nat) (l0 : List Int) (A1 : Option Addr) (c1 : Nat) (l1 : List Int) (a2 : Int) (w : World)
    (hr0 : Kd.C (Kd.int .u8) w A0 l0.length l0) (hc0 : l0.length ≤ c0) (hw0 : ∀ x ∈ l0, (Lit.int .u8 x).wf = true) (hs0 : l0.length * 1 ≤ 140737488351232)
    (hr1 : Kd.C (Kd.int .u8) w A1 l1.length l1) (hc1 : l1.length ≤ c1) (hw1 : ∀ x ∈ l1, (Lit.int .u8 x).wf = true) (hs1 : l1.length * 1 ≤ 140737488351232)
    (w2 : (Lit.int .u32 a2).wf = true) (hT : TabQ w) (hb0 : l0.length ≤ 1048576) (hb1 : l1.length ≤ 1048576) :
    Calls Tryd.prog 3 #[.slice A0 l0.length c0, .slice A1 l1.length c1, .int .u32 a2] w fun e w' => e = .returned (.bool true) ∧ Below w.heap.size w w' := by
  have ok0 := okB_wf hw0
  have ok1 := okB_wf hw1
  have okA : okB (l0 ++ l1) = true := okB_iff.2 fun x hx => (List.mem_append.1 hx).elim (okB_iff.1 ok0 x) (okB_iff.1 ok1 x)
  have b2 := u32_bd w2
  have HR0 := Aside0.mk hr0
  have HC0 := Aside0.mk hc0
  have HR1 := Aside0.mk hr1
  have HC1 := Aside0.mk hc1
  have HZ := Aside0.mk (And.intro hb0 hb1)
  clear hr0 hc0 hw0 hs0 hr1 hc1 hw1 hs1 w2 hb0 hb1
  have h1 : crc_Sum.f l0 = some ((CrcMath.more 0 l0 : Nat) : Int) := if_pos ok0
  have h2 : crc_More.f ((CrcMath.more 0 l0 : Nat) : Int) l1 = some ((CrcMath.more (CrcMath.more 0 l0) l1 : Nat) : Int) := by
    unfold crc_More.f
    have := CrcMath.more_lt (s := 0) (by omega) (okB_iff.1 ok0)
    rw [if_pos ⟨ok1, by omega, by omega⟩, Int.toNat_natCast]
  have h3 : crc_Sum.f (l0 ++ l1) = some ((CrcMath.more (CrcMath.more 0 l0) l1 : Nat) : Int) := by
    rw [← CrcMath.more_append]
    exact if_pos okA
  have h4 : crc_More.f a2 l1 = some ((CrcMath.more a2.toNat l1 : Nat) : Int) := if_pos ⟨ok1, b2⟩
  generalize CrcMath.more (CrcMath.more 0 l0) l1 = S2 at h2 h3
  generalize CrcMath.more 0 l0 = S1 at h1 h2
  generalize CrcMath.more a2.toNat l1 = S3 at h4
  have H1 := Aside0.mk h1
  have H2 := Aside0.mk h2
  have H3 := Aside0.mk h3
  have H4 := Aside0.mk h4
  clear h1 h2 h3 h4 ok0 ok1 okA b2
  go_enter Tryd.func3, Tryd.ntmps3
  go_wp2_with fail
  refine (crc_Sum.calls _ _ _ _ _ HR0.out HC0.out hT H1.out).mono ?_
  rintro e w1 ⟨rfl, ⟨n1, rfl⟩⟩
  go_wp2_with fail
  refine (crc_More.calls _ _ _ _ _ _ (Kd.C_drewN HR1.out n1) HC1.out (hT.drewN n1) H2.out).mono ?_
  rintro e w2 ⟨rfl, ⟨n2, rfl⟩⟩
  go_wp2_with fail
  refine (bytes_Clone.calls _ _ _ _ _ (Kd.C_drewN HR0.out _) HC0.out (show bytes_Clone.f l0 = some l0 from if_pos (by have := HZ.out; omega))).mono ?_
  rintro e w3 ⟨v3, rfl, hR3, hB3⟩
  have HR1' := Aside0.mk (Kd.C_below (Kd.C_drewN HR1.out _) hB3)
  have hT3 := (hT.drewN _).below hB3
  have HB3 : Aside0 (Below w.heap.size w w3) := Aside0.mk (below_then (pw_below_drewN (Below.refl _ _) _) (Nat.le_refl _) hB3)
  have HR3 : Aside0 (Kd.R (Kd.int .u8) 5 w3 w.heap.size (fun _ => True) v3 l0) := Aside0.mk hR3
  have HTw := Aside0.mk hT
  clear hR3 hB3 hT HR0
  have HSZ : Aside0 (w.heap.size ≤ w3.heap.size) := Aside0.mk HB3.out.size
  go_wp2_with ((with_reducible refine gate_dst (N := 14) rfl ?_); refine Kd.R_append_row (w0 := w) (Value.int .u8) 0 (h1 := fun _ => rfl) w.heap.size rfl (.tmp 12) (.tmp 13) 22 5 (.int .u8 0) 1 rfl Tryd.underlying22 infoU8 rfl (by decide) v3 l0 l1 A1 l1.length c1 (fun _ => True) rfl rfl (fun _ _ => trivial) HR3.out HR1'.out HB3.out HSZ.out (by have := HZ.out; omega) ?_; intro v4 w4 hR4 hB4 hg4 ho4)
  obtain ⟨A4, c4, rfl, hl4, hC4⟩ := Kd.R_reads hR4
  have hT4 := HTw.out.below hB4
  have HB4 := Aside0.mk hB4
  have HC4 := Aside0.mk hC4
  have HL4 := Aside0.mk hl4
  have HR1' := Aside0.mk (Kd.C_below HR1.out hB4)
  clear hR4 hB4 hg4 ho4 hC4 hl4 hT3 HR1
  refine (crc_Sum.calls _ _ _ _ _ HC4.out HL4.out hT4 H3.out).mono ?_
  rintro e w5 ⟨rfl, ⟨n5, rfl⟩⟩
  go_wp2_with fail
  refine (crc_More.calls _ _ _ _ _ _ (Kd.C_drewN HR1'.out _) HC1.out (hT4.drewN _) H4.out).mono ?_
  rintro e w6 ⟨rfl, ⟨n6, rfl⟩⟩
  go_wp2_with fail
  refine (dryrotref01_More.calls _ _ _ _ _ _ (Kd.C_drewN HR1'.out _) HC1.out H4.out).mono ?_
  rintro e w7 ⟨rfl, ⟨n7, rfl⟩⟩
  go_wp2_with fail
  refine (dryrotlaw01_awake.calls _ (hT4.drewN _)).mono ?_
  rintro e w8 ⟨rfl, hB8⟩
  have HB8 := Aside0.mk hB8
  clear hB8
  go_wp2
  go_ret
  exact ⟨rfl, below_step (pw_below_drewN HB4.out _) HB8.out⟩
end Go.Proofs.YtmaoleabfmokpaaDoor.G

/- The plain law ExtentOpens. -/
import Derived.Test.YtmaoleabfmokpaaDoorLExtentFrames
namespace Go.Proofs.YtmaoleabfmokpaaDoor.G
open Go.RowKit Go.Proofs.YtmaoleabfmokpaaDoorW.PrintWords
theorem open_ok {b : List Int} (hok : okB b = true) (s : ByteArray) (idx : Int) : okB (openL b s idx).1 = true := by
  unfold openL
  split
  · exact okB_iff.2 fun x hx => okB_iff.1 hok x (List.mem_of_mem_take (List.mem_of_mem_drop hx))
  · decide
end Go.Proofs.YtmaoleabfmokpaaDoor.G
namespace Go.Proofs.YtmaoleabfmokpaaDoor.G.ExtentOpens
open Go.RowKit Go.Proofs.YtmaoleabfmokpaaDoor.G Go.Proofs.YtmaoleabfmokpaaDoorW.PrintWords Go.Proofs.YtmaoleabfmokpaaDoorW.PrintLast Go.Proofs.YtmaoleabfmokpaaDoorW.PrintMore
set_option linter.unusedVariables false
set_option linter.unusedSimpArgs false
set_option maxHeartbeats 2000000 in
set_option maxRecDepth 100000 in
theorem walk (A : Option Addr) (c : Nat) (b : List Int) (s : ByteArray) (idx : Int) (w : World) (hr : Kd.C (Kd.int .u8) w A b.length b) (hc : b.length ≤ c) (hw : ∀ x ∈ b, (Lit.int .u8 x).wf = true) (hy : b.length * 1 ≤ 140737488351232) (hs : s.size ≤ 140737488351232) (hi : (Lit.int .i64 idx).wf = true) (hT : TabQ w) :
    Calls Tryd.prog 11 #[.slice A b.length c, .string s, .int .i64 idx] w fun e w' => e = .returned (.bool true) ∧ Below w.heap.size w w' := by
  have HOK := Aside0.mk (okB_wf hw)
  have HR := Aside0.mk hr
  have HC := Aside0.mk hc
  have HT := Aside0.mk hT
  have HCL := Aside0.mk (clone_f hy)
  have HE2 := Aside0.mk (bytes_Equal.self (okB_wf hw))
  have hpk := open_ok (okB_wf hw) s idx
  clear hr hc hw hy hT hi
  obtain ⟨P, G, E, hO⟩ : ∃ P G E, openL b s idx = (P, G, E) := ⟨_, _, _, rfl⟩
  rw [hO] at hpk
  have HE1 : Aside0 (bytes_Equal.f P P = some true) := ⟨bytes_Equal.self hpk⟩
  have HO := Aside0.mk hO
  clear hpk hO
  go_enter Tryd.func11, Tryd.ntmps11
  go_wp2_with (first
    | (go_at_call 14; (with_reducible refine (bytes_Clone.calls _ _ b b _ HR.out HC.out HCL.out).mono ?_); rintro e w1 ⟨v1, rfl, hr1, hb⟩; obtain ⟨A1, c1, rfl⟩ := Kd.R_slice hr1; have HC1 := Aside0.mk (Kd.R_reads' hr1); have HB1 := Aside0.mk hb; clear hr1 hb)
    | (go_at_call 24; (with_reducible refine (extent_Open.calls_at _ _ b s idx _ P G E rfl HC1.out.2.2 HC1.out.2.1 HOK.out hs (HT.out.below HB1.out) HO.out).mono ?_); rintro e w2 ⟨v2, rfl, hr2, hb⟩; obtain ⟨A2, c2, rfl⟩ := Kd.R_slice hr2; have HC2 := Aside0.mk (Kd.R_reads' hr2); have HB2 := Aside0.mk (below_step HB1.out hb); have HK2 := Aside0.mk hb; clear hr2 hb)
    | (go_at_call 27; (with_reducible refine (refOpen.calls_at _ _ b s idx _ P G E rfl (Kd.C_below HR.out HB2.out) HC.out HOK.out hs HO.out).mono ?_); rintro e w3 ⟨v3, rfl, hr3, hb⟩; obtain ⟨A3, c3, rfl⟩ := Kd.R_slice hr3; have HC3 := Aside0.mk (Kd.R_reads' hr3); have HB3 := Aside0.mk (below_step HB2.out hb); have HK3 := Aside0.mk (below_step HK2.out hb); have HJ3 := Aside0.mk hb; clear hr3 hb)
    | (go_at_call 18; (with_reducible refine (bytes_Equal.calls_at A2 _ P A3 _ P true _ rfl rfl (Kd.C_below HC2.out.2.2 HJ3.out) HC2.out.2.1 HC3.out.2.2 HC3.out.2.1 HE1.out).mono ?_); rintro e w4 ⟨rfl, hb⟩; have HB4 := Aside0.mk (below_step HB3.out hb); have HK4 := Aside0.mk (below_step HK3.out hb); clear hb)
    | (go_at_call 18; (with_reducible refine (bytes_Equal.calls_at A1 _ b A _ b true _ rfl rfl (Kd.C_below HC1.out.2.2 HK4.out) HC1.out.2.1 (Kd.C_below HR.out HB4.out) HC.out HE2.out).mono ?_); rintro e w5 ⟨rfl, hb⟩; have HB5 := Aside0.mk (below_step HB4.out hb); clear hb)
    | (go_at_call 25; (with_reducible refine (extent_awake.calls _ (HT.out.below HB5.out)).mono ?_); rintro e w6 ⟨rfl, hb⟩; have HB6 := Aside0.mk (below_step HB5.out hb); clear hb))
  go_ret
  exact ⟨rfl, HB6.out⟩
end Go.Proofs.YtmaoleabfmokpaaDoor.G.ExtentOpens

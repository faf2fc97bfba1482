/- The plain law ExtentFrames. -/
import Derived.Test.YtmaoleabfmokpaaDoorEAwake
namespace Go.Proofs.YtmaoleabfmokpaaDoor.G
open Go.RowKit Go.Proofs.YtmaoleabfmokpaaDoorW.PrintWords Go.Proofs.YtmaoleabfmokpaaDoorW.PrintLast Go.Proofs.YtmaoleabfmokpaaDoorW.PrintMore
set_option linter.unusedVariables false
theorem bytes_Equal.calls_at {n m : Nat} (A0 : Option Addr) (c0 : Nat) (l0 : List Int) (A1 : Option Addr) (c1 : Nat) (l1 : List Int) (r : Bool) (w : World) (hn : l0.length = n) (hm : l1.length = m) (hr0 : Kd.C (Kd.int .u8) w A0 l0.length l0) (hc0 : n ≤ c0) (hr1 : Kd.C (Kd.int .u8) w A1 l1.length l1) (hc1 : m ≤ c1) (h : bytes_Equal.f l0 l1 = some r) :
    Calls Tryd.prog 18 #[.slice A0 n c0, .slice A1 m c1] w fun e w' => e = .returned (.bool r) ∧ Below w.heap.size w w' := by
  subst hn hm
  exact (bytes_Equal.calls A0 c0 l0 A1 c1 l1 r w hr0 hc0 hr1 hc1 h).mono fun e w' ⟨he, hd⟩ => ⟨he, hd.below⟩
theorem clone_f {l : List Int} (h : l.length * 1 ≤ 140737488351232) : bytes_Clone.f l = some l := by
  rw [bytes_Clone.f, if_pos (by omega)]
end Go.Proofs.YtmaoleabfmokpaaDoor.G
namespace Go.Proofs.YtmaoleabfmokpaaDoor.G.ExtentFrames
open Go.RowKit Go.Proofs.YtmaoleabfmokpaaDoor.G Go.Proofs.YtmaoleabfmokpaaDoorW.PrintWords Go.Proofs.YtmaoleabfmokpaaDoorW.PrintLast Go.Proofs.YtmaoleabfmokpaaDoorW.PrintMore
set_option linter.unusedVariables false
set_option linter.unusedSimpArgs false
set_option maxHeartbeats 2000000 in
set_option maxRecDepth 100000 in
theorem walk (s : ByteArray) (idx gen : Int) (A : Option Addr) (c : Nat) (l : List Int) (w : World) (hs : s.size ≤ 140737488351232) (hi : (Lit.int .i64 idx).wf = true) (hg : (Lit.int .i64 gen).wf = true) (hr : Kd.C (Kd.int .u8) w A l.length l) (hc : l.length ≤ c) (hw : ∀ x ∈ l, (Lit.int .u8 x).wf = true) (hy : l.length * 1 ≤ 140737488351232) (hT : TabQ w) :
    Calls Tryd.prog 10 #[.string s, .int .i64 idx, .int .i64 gen, .slice A l.length c] w fun e w' => e = .returned (.bool true) ∧ Below w.heap.size w w' := by
  have HOK := Aside0.mk (okB_wf hw)
  have HR := Aside0.mk hr
  have HC := Aside0.mk hc
  have HT := Aside0.mk hT
  have HCL := Aside0.mk (clone_f hy)
  have HE2 := Aside0.mk (bytes_Equal.self (okB_wf hw))
  clear hr hc hw hy hT hi hg
  cases hF : okF idx gen l.length with
  | true =>
    have HF := Aside0.mk hF
    have HIL := Aside0.mk (image_length s idx gen l (okF_iff.1 hF).2.2)
    have HIK := Aside0.mk (image_okB s idx gen l HOK.out (okF_iff.1 hF).2.2)
    have HE1 := Aside0.mk (bytes_Equal.self HIK.out)
    clear hF
    go_enter Tryd.func10, Tryd.ntmps10
    go_wp2_with (first
      | (go_at_call 14; (with_reducible refine (bytes_Clone.calls _ _ l l _ HR.out HC.out HCL.out).mono ?_); rintro e w1 ⟨v1, rfl, hr1, hb⟩; obtain ⟨A1, c1, rfl⟩ := Kd.R_slice hr1; have HC1 := Aside0.mk (Kd.R_reads' hr1); have HB1 := Aside0.mk hb; clear hr1 hb)
      | (go_at_call 23; (with_reducible refine (extent_Frame.calls_ok s idx gen _ _ l _ HC1.out.2.2 HC1.out.2.1 HOK.out hs (HT.out.below HB1.out) HF.out).mono ?_); rintro e w2 ⟨g, hg, rfl, hblk, hb⟩; have HB2 := Aside0.mk (below_step HB1.out hb); have HK2 := Aside0.mk hb; have HBK2 := Aside0.mk hblk; clear hg hblk hb)
      | (go_at_call 26; (with_reducible refine (refFrame.calls_ok s idx gen _ _ l _ (Kd.C_below HR.out HB2.out) HC.out HOK.out hs HF.out).mono ?_); rintro e w3 ⟨v3, rfl, hr3, hb⟩; obtain ⟨A3, c3, rfl⟩ := Kd.R_slice hr3; have HC3 := Aside0.mk (Kd.R_reads' hr3); have HB3 := Aside0.mk (below_step HB2.out hb); have HK3 := Aside0.mk (below_step HK2.out hb); have HBK3 := Aside0.mk (blk_below HBK2.out hb); clear hr3 hb)
      | (go_at_call 18; (with_reducible refine (bytes_Equal.calls_at _ _ (imageB s idx gen l) _ _ (imageB s idx gen l) true _ HIL.out rfl (row_C HBK3.out (by rw [HIL.out]; decide)) (by decide) HC3.out.2.2 HC3.out.2.1 HE1.out).mono ?_); rintro e w4 ⟨rfl, hb⟩; have HB4 := Aside0.mk (below_step HB3.out hb); have HK4 := Aside0.mk (below_step HK3.out hb); clear hb)
      | (go_at_call 18; (with_reducible refine (bytes_Equal.calls_at _ _ l _ _ l true _ rfl rfl (Kd.C_below HC1.out.2.2 HK4.out) HC1.out.2.1 (Kd.C_below HR.out HB4.out) HC.out HE2.out).mono ?_); rintro e w5 ⟨rfl, hb⟩; have HB5 := Aside0.mk (below_step HB4.out hb); clear hb)
      | (go_at_call 25; (with_reducible refine (extent_awake.calls _ (HT.out.below HB5.out)).mono ?_); rintro e w6 ⟨rfl, hb⟩; have HB6 := Aside0.mk (below_step HB5.out hb); clear hb))
    go_ret
    exact ⟨rfl, HB6.out⟩
  | false =>
    have HF := Aside0.mk hF
    have HE1 : Aside0 (bytes_Equal.f [] [] = some true) := ⟨by decide⟩
    have HN : ∀ W : World, (Kd.int .u8).C W none 0 [] := fun W => ⟨rfl, by simp, fun h => by simp at h⟩
    have HN := Aside0.mk HN
    clear hF
    go_enter Tryd.func10, Tryd.ntmps10
    go_wp2_with (first
      | (go_at_call 14; (with_reducible refine (bytes_Clone.calls _ _ l l _ HR.out HC.out HCL.out).mono ?_); rintro e w1 ⟨v1, rfl, hr1, hb⟩; obtain ⟨A1, c1, rfl⟩ := Kd.R_slice hr1; have HC1 := Aside0.mk (Kd.R_reads' hr1); have HB1 := Aside0.mk hb; clear hr1 hb)
      | (go_at_call 23; (with_reducible refine (extent_Frame.calls_bad s idx gen _ _ l.length _ HF.out).mono ?_); rintro e w2 ⟨rfl, hb⟩; have HB2 := Aside0.mk (below_step HB1.out hb); have HK2 := Aside0.mk hb; clear hb)
      | (go_at_call 26; (with_reducible refine (refFrame.calls_bad s idx gen _ _ l.length _ HF.out).mono ?_); rintro e w3 ⟨rfl, hb⟩; have HB3 := Aside0.mk (below_step HB2.out hb); have HK3 := Aside0.mk (below_step HK2.out hb); clear hb)
      | (go_at_call 18; (with_reducible refine (bytes_Equal.calls_at (n := 0) (m := 0) none 0 [] none 0 [] true _ (by decide) (by decide) (HN.out _) (by decide) (HN.out _) (by decide) HE1.out).mono ?_); rintro e w4 ⟨rfl, hb⟩; have HB4 := Aside0.mk (below_step HB3.out hb); have HK4 := Aside0.mk (below_step HK3.out hb); clear hb)
      | (go_at_call 18; (with_reducible refine (bytes_Equal.calls_at _ _ l _ _ l true _ rfl rfl (Kd.C_below HC1.out.2.2 HK4.out) HC1.out.2.1 (Kd.C_below HR.out HB4.out) HC.out HE2.out).mono ?_); rintro e w5 ⟨rfl, hb⟩; have HB5 := Aside0.mk (below_step HB4.out hb); clear hb)
      | (go_at_call 25; (with_reducible refine (extent_awake.calls _ (HT.out.below HB5.out)).mono ?_); rintro e w6 ⟨rfl, hb⟩; have HB6 := Aside0.mk (below_step HB5.out hb); clear hb))
    go_ret
    exact ⟨rfl, HB6.out⟩
end Go.Proofs.YtmaoleabfmokpaaDoor.G.ExtentFrames

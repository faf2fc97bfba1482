/- The plain law ExtentOnce. -/
import Derived.Test.YtmaoleabfmokpaaDoorLExtentOpens
namespace Go.Proofs.YtmaoleabfmokpaaDoor.G.ExtentOnce
open Go.RowKit Go.Proofs.YtmaoleabfmokpaaDoor.G Go.Proofs.YtmaoleabfmokpaaDoorW.PrintWords Go.Proofs.YtmaoleabfmokpaaDoorW.PrintLast Go.Proofs.YtmaoleabfmokpaaDoorW.PrintMore
set_option linter.unusedVariables false
set_option linter.unusedSimpArgs false
set_option maxHeartbeats 2000000 in
set_option maxRecDepth 100000 in
theorem walk (A : Option Addr) (c : Nat) (b : List Int) (s : ByteArray) (idx : Int) (w : World) (hr : Kd.C (Kd.int .u8) w A b.length b) (hc : b.length ≤ c) (hw : ∀ x ∈ b, (Lit.int .u8 x).wf = true) (hy : b.length * 1 ≤ 140737488351232) (hs : s.size ≤ 140737488351232) (hi : (Lit.int .i64 idx).wf = true) (hT : TabQ w) :
    Calls Tryd.prog 9 #[.slice A b.length c, .string s, .int .i64 idx] w fun e w' => e = .returned (.bool true) ∧ Below w.heap.size w w' := by
  have HOK := Aside0.mk (okB_wf hw)
  have HR := Aside0.mk hr
  have HC := Aside0.mk hc
  have HT := Aside0.mk hT
  have HE2 := Aside0.mk (bytes_Equal.self (okB_wf hw))
  clear hr hc hw hy hT hi
  cases hO : okO b s idx with
  | false =>
    have HO : Aside0 (openL b s idx = ([], 0, 40)) := ⟨by rw [openL, if_neg (by rw [hO]; simp)]⟩
    clear hO
    go_enter Tryd.func9, Tryd.ntmps9
    go_wp2_with (first
      | (go_at_call 24; (with_reducible refine (extent_Open.calls_at _ _ b s idx _ [] 0 40 rfl HR.out HC.out HOK.out hs HT.out HO.out).mono ?_); rintro e w2 ⟨v2, rfl, hr2, hb⟩; obtain ⟨A2, c2, rfl⟩ := Kd.R_slice hr2; have HB2 := Aside0.mk hb; clear hr2 hb)
      | (go_at_call 25; (with_reducible refine (extent_awake.calls _ (HT.out.below HB2.out)).mono ?_); rintro e w6 ⟨rfl, hb⟩; have HB6 := Aside0.mk (below_step HB2.out hb); clear hb))
    go_ret
    exact ⟨rfl, HB6.out⟩
  | true =>
    have HO : Aside0 (openL b s idx = (loadO b, (genO b : Int), 0)) := ⟨by rw [openL, if_pos hO]⟩
    have h3 := hO
    simp only [okO, okO1, okO2, okO3, Bool.and_eq_true, decide_eq_true_eq] at h3
    have HLL : Aside0 ((loadO b).length ≤ 106) := ⟨by rw [loadO, List.length_drop, List.length_take]; omega⟩
    have HF : Aside0 (okF idx (genO b) (loadO b).length = true) := ⟨okF_iff.2 ⟨⟨h3.1.1.1.2, h3.1.1.2⟩, ⟨by omega, by omega⟩, HLL.out⟩⟩
    have HI : Aside0 (imageB s idx (genO b) (loadO b) = b) := ⟨h3.2⟩
    have HBL : Aside0 (b.length = 128) := ⟨h3.1.1.1.1.1⟩
    have HLK : Aside0 (okB (loadO b) = true) := ⟨okB_iff.2 (fun x hx => okB_iff.1 HOK.out x (List.mem_of_mem_take (List.mem_of_mem_drop hx)))⟩
    clear h3 hO
    obtain ⟨G, hG⟩ : ∃ G : Int, (genO b : Int) = G := ⟨_, rfl⟩
    rw [hG] at HO HF HI
    clear hG
    go_enter Tryd.func9, Tryd.ntmps9
    go_wp2_with (first
      | (go_at_call 24; (with_reducible refine (extent_Open.calls_at _ _ b s idx _ (loadO b) G 0 rfl HR.out HC.out HOK.out hs HT.out HO.out).mono ?_); rintro e w2 ⟨v2, rfl, hr2, hb⟩; obtain ⟨A2, c2, rfl⟩ := Kd.R_slice hr2; have HC2 := Aside0.mk (Kd.R_reads' hr2); have HB2 := Aside0.mk hb; clear hr2 hb)
      | (go_at_call 23; (with_reducible refine (extent_Frame.calls_at s idx G _ _ (loadO b) _ b rfl HC2.out.2.2 HC2.out.2.1 HLK.out hs (HT.out.below HB2.out) HF.out HI.out).mono ?_); rintro e w3 ⟨g, hg, rfl, hblk, hb⟩; have HB3 := Aside0.mk (below_step HB2.out hb); have HBK3 := Aside0.mk hblk; clear hg hblk hb)
      | (go_at_call 18; (with_reducible refine (bytes_Equal.calls_at _ _ b _ _ b true _ HBL.out rfl (row_C HBK3.out (by rw [HBL.out]; decide)) (by decide) (Kd.C_below HR.out HB3.out) HC.out HE2.out).mono ?_); rintro e w5 ⟨rfl, hb⟩; have HB5 := Aside0.mk (below_step HB3.out hb); clear hb)
      | (go_at_call 25; (with_reducible refine (extent_awake.calls _ (HT.out.below HB5.out)).mono ?_); rintro e w6 ⟨rfl, hb⟩; have HB6 := Aside0.mk (below_step HB5.out hb); clear hb))
    go_ret
    exact ⟨rfl, HB6.out⟩
end Go.Proofs.YtmaoleabfmokpaaDoor.G.ExtentOnce

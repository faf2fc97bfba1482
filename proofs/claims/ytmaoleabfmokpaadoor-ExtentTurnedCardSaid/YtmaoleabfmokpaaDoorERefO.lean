/- The contract of the reference's Open. Its lines are written by wip/mk_eref.py of this session. -/
import Derived.Test.YtmaoleabfmokpaaDoorERef
import Derived.Test.YtmaoleabfmokpaaDoorGGet
import Derived.Test.YtmaoleabfmokpaaDoorGBytes
namespace Go.Proofs.YtmaoleabfmokpaaDoor.G
open Go.RowKit Go.Proofs.YtmaoleabfmokpaaDoorW.PrintWords Go.Proofs.YtmaoleabfmokpaaDoorW.PrintLast Go.Proofs.YtmaoleabfmokpaaDoorW.PrintMore
set_option linter.unusedVariables false
set_option linter.unusedSimpArgs false

theorem image_okB (s : ByteArray) (idx gen : Int) (l : List Int) (hok : okB l = true) (hl : l.length ≤ 106) : okB (imageB s idx gen l) = true := okB_iff.2 fun x hx => by
  rcases List.mem_append.1 hx with hx | hx
  · exact okB_iff.1 (head_ok s idx gen l hok hl) x hx
  · exact beL_byte _ _ x hx
theorem refGet_at {n : Nat} (A0 : Option Addr) (c0 : Nat) (l0 : List Int) (r1 : Int) (r2 : Bool) (w : World) (hn : l0.length = n) (hr0 : Kd.C (Kd.int .u8) w A0 l0.length l0) (hc0 : l0.length ≤ c0) (h : dryrotref01_Get.f l0 = some (r1, r2)) :
    Calls Tryd.prog 20 #[.slice A0 n c0] w fun e w' => e = .returned (.tuple #[.int .u64 r1, .bool r2]) ∧ Drawn0 w w' := by
  subst hn
  exact dryrotref01_Get.calls A0 c0 l0 r1 r2 w hr0 hc0 h
set_option maxHeartbeats 4000000 in
set_option maxRecDepth 100000 in
theorem refOpen.calls (A : Option Addr) (c : Nat) (b : List Int) (s : ByteArray) (idx : Int) (w : World) (hr : Kd.C (Kd.int .u8) w A b.length b) (hc : b.length ≤ c) (hok : okB b = true) (hs : s.size ≤ 140737488351232) :
    Calls Tryd.prog 27 #[.slice A b.length c, .string s, .int .i64 idx] w fun e w' => ∃ v, e = .returned (.tuple #[v, .int .i64 (openL b s idx).2.1, .int .i64 (openL b s idx).2.2]) ∧ Kd.R (Kd.int .u8) 5 w' w.heap.size (fun _ => True) v (openL b s idx).1 ∧ Below w.heap.size w w' := by
  have hbyte := okB_iff.1 hok
  by_cases hb : b.length = 128
  case neg =>
    have e0 : openL b s idx = ([], 0, 40) := by rw [openL, if_neg (by simp [okO, okO1, hb])]
    rw [e0]
    have d0 : ((b.length : Int) != 128) = true := bne_iff_ne.2 (by omega)
    clear hr hbyte e0 hc
    go_enter Tryd.func27, Tryd.ntmps27
    go_wp2
    refine bodyPost_ret (results_tmp3 rfl _ _ _) rfl ?_
    exact ⟨_, rfl, Kd.R_nil _ _ _ _ _, Below.refl _ _⟩
  case pos =>
  have d0 : ((b.length : Int) != 128) = false := bne_eq_false_iff_eq.2 (by omega)
  have HR := Aside0.mk hr
  have HBL := Aside0.mk hb
  obtain ⟨ad, cs17, rfl, _, hK17, hc17⟩ := Kd.C_get hr (0 : Int) 17 (by omega) (by omega)
  have h17 : w.cell? ⟨ad.block, ad.off + 17, none⟩ = some (.int .u8 (rd b 17)) := by
    have hk : cs17 = [.int .u8 (rd b 17)] := hK17
    subst hk
    have := hc17 0 _ rfl
    simpa [Addr.add, Kd.int, Kd.scalar] using this
  have hn := hbyte (rd b 17) (rd_mem b 17 (by omega))
  have HLO : Aside0 (rd b 17 = (lenO b : Int)) := ⟨by unfold lenO; omega⟩
  clear hK17 hc17 hr
  have HC := Aside0.mk hc
  have HOK := Aside0.mk hok
  by_cases h1 : 106 < rd b 17
  · have hnl : ¬ lenO b ≤ 106 := by have := HLO.out; omega
    have e0 : openL b s idx = ([], 0, 40) := by rw [openL, if_neg (by simp [okO, okO1, hnl])]
    clear hnl
    rw [e0]
    have d1 : decide (106 < rd b 17) = true := decide_eq_true h1
    clear e0 hbyte hc hok h1
    generalize rd b 17 = n17 at *
    go_enter Tryd.func27, Tryd.ntmps27
    go_wp2
    refine bodyPost_ret (results_tmp3 rfl _ _ _) rfl ?_
    exact ⟨_, rfl, Kd.R_nil _ _ _ _ _, Below.refl _ _⟩
  have d1 : decide (106 < rd b 17) = false := decide_eq_false h1
  -- the generation
  have HG : Aside0 (okB ((b.take 17).drop 9) = true ∧ ((b.take 17).drop 9).length = 8) := ⟨okB_iff.2 (fun x hx => hbyte x (List.mem_of_mem_take (List.mem_of_mem_drop hx))), by rw [List.length_drop, List.length_take]; omega⟩
  have HGF : Aside0 (dryrotref01_Get.f ((b.take 17).drop 9) = some (((genO b : Nat) : Int), true)) := ⟨by rw [dryrotref01_Get.f, crc_Get.f, if_pos HG.out.1, if_pos (by have := HG.out.2; omega)]; rfl⟩
  have hc8 := Kd.C_mid (c := c) (lo := 9) (hi := 17) HR.out (by decide) (by omega) hc
  rw [if_neg (by omega)] at hc8
  have HC8 := Aside0.mk (show (Kd.int .u8).C w (some ⟨ad.block, ad.off + 9, none⟩) _ _ from hc8)
  obtain ⟨i05, hi05, _, hsz5, _⟩ := info_parts infoU8
  have hcut9 := cut_mid (P := Tryd.prog) 22 5 .i64 .i64 Tryd.underlying22 hi05 1 hsz5 (some ad) b.length c 9 17 (by decide) (by decide) (by omega) hc
  have hcut18 := cut_mid (P := Tryd.prog) 22 5 .i64 .i64 Tryd.underlying22 hi05 1 hsz5 (some ad) b.length c 18 (18 + (lenO b : Int)) (by decide) (by omega) (by have := HLO.out; omega) hc
  have hc18 := Kd.C_mid (c := c) (lo := 18) (hi := 18 + lenO b) HR.out (by omega) (by have := HLO.out; omega) hc
  rw [if_neg (by omega)] at hc18
  have HC18 := Aside0.mk (show (Kd.int .u8).C w (some ⟨ad.block, ad.off + 18, none⟩) (loadO b).length (loadO b) from hc18)
  have HLL : Aside0 ((loadO b).length = lenO b) := ⟨by have := HLO.out; rw [loadO, List.length_drop, List.length_take]; omega⟩
  have HLK : Aside0 (okB (loadO b) = true) := ⟨okB_iff.2 (fun x hx => hbyte x (List.mem_of_mem_take (List.mem_of_mem_drop hx)))⟩
  have hnl : (lenO b : Int) ≤ 106 := by have := HLO.out; omega
  have h17' := h17
  rw [HLO.out] at h17' d1
  clear hc8 hc18 hi05 hbyte hok h1 hn h17
  obtain ⟨G, hG⟩ : ∃ G, genO b = G := ⟨_, rfl⟩
  rw [hG] at HGF
  have HGE := Aside0.mk hG
  clear hG
  by_cases h4 : 4611686018427387904 < G
  · have e0 : openL b s idx = ([], 0, 40) := by rw [openL, if_neg (by simp [okO, okO2, HGE.out, show ¬ G ≤ 4611686018427387904 by omega])]
    rw [e0]
    have d4 : decide ((4611686018427387904 : Int) < (G : Int)) = true := decide_eq_true (by omega)
    clear e0 hcut18 h4
    go_enter Tryd.func27, Tryd.ntmps27
    go_wp2_with (go_at_call 20; (with_reducible refine (refGet_at _ _ ((b.take 17).drop 9) G true _ HG.out.2 HC8.out (by have := HG.out.2; omega) HGF.out).mono ?_); rintro e w1 ⟨rfl, hd⟩; have HB := Aside0.mk hd.below; clear hd)
    refine bodyPost_ret (results_tmp3 rfl _ _ _) rfl ?_
    exact ⟨_, rfl, Kd.R_nil _ _ _ _ _, HB.out⟩
  have d4 : decide ((4611686018427387904 : Int) < (G : Int)) = false := decide_eq_false (by omega)
  have hG2 : G ≤ 4611686018427387904 := by omega
  clear h4
  go_enter Tryd.func27, Tryd.ntmps27
  go_upto_region 7 with (first
    | (go_at_call 20; (with_reducible refine (refGet_at _ _ ((b.take 17).drop 9) G true _ HG.out.2 HC8.out (by have := HG.out.2; omega) HGF.out).mono ?_); rintro e w1 ⟨rfl, hd⟩; have HB := Aside0.mk hd.below; clear hd; have h17 := pw_cell_below HB.out h17'; have h17b := cell_alloc_old (.cells #[] 5) h17; have HE := Aside0.mk (R_empty (Kd.int .u8) 5 w.heap.size w1 (fun _ => True) HB.out.size trivial))
    | ((with_reducible refine gate_dst (N := 39) rfl ?_); refine Kd.R_append_row (w0 := w) (Value.int .u8) 0 (h1 := fun _ => rfl) w.heap.size rfl (.tmp 31) (.tmp 38) 22 5 (.int .u8 0) 1 rfl Tryd.underlying22 infoU8 rfl (by decide) _ [] (loadO b) (some ⟨ad.block, ad.off + 18, none⟩) (loadO b).length (c - 18) (fun _ => True) rfl ?hx (fun _ _ => trivial) HE.out (Kd.C_below HC18.out (below_alloc HB.out _)) (below_alloc HB.out _) ?hb ?hl ?_; (case hx => (show Value.slice (some ⟨ad.block, ad.off + 18, none⟩) (18 + lenO b - 18) (c - 18) = _; rw [HLL.out, show 18 + lenO b - 18 = lenO b by omega])); (case hb => (have := HB.out.size; simp; omega)); (case hl => (have := HLL.out; simp; omega)); intro v1 w2 hR1 hB1 hg_ ho_; rw [List.nil_append] at hR1; have HR1 := Aside0.mk hR1; have HB1 := Aside0.mk hB1; clear hR1 hB1 hg_ ho_))
  obtain ⟨A3, c3, rfl⟩ := Kd.R_slice HR1.out
  have HLM : Aside0 ((loadO b).length ≤ 106) := ⟨by have := HLL.out; omega⟩
  cases hF : okF idx (G : Int) (loadO b).length with
  | false =>
    have HF := Aside0.mk hF
    clear hF
    have E0 : Aside0 (openL b s idx = ([], 0, 40)) := ⟨by
      rw [openL, if_neg]
      intro q
      have hh := HF.out
      simp only [okO, okO1, Bool.and_eq_true, decide_eq_true_eq] at q
      have : okF idx (G : Int) (loadO b).length = true := okF_iff.2 ⟨⟨q.1.1.1.2, q.1.1.2⟩, ⟨by omega, by omega⟩, HLM.out⟩
      rw [hh] at this
      cases this⟩
    go_wp2_with (go_at_call 26; refine (refFrame.calls_bad s idx (G : Int) A3 c3 (loadO b).length _ HF.out).mono ?_; rintro e w4 ⟨rfl, hb4⟩; have HB4 := Aside0.mk hb4; clear hb4)
    refine bodyPost_ret (results_tmp3 rfl _ _ _) rfl ?_
    rw [E0.out]
    exact ⟨_, rfl, Kd.R_nil _ _ _ _ _, below_step HB1.out HB4.out⟩
  | true =>
    have HF := Aside0.mk hF
    clear hF
    have HIX := okF_iff.1 HF.out
    have hs1 : ∀ W, (Kd.int .u8).C W (some ad) b.length b → (convert 22 9 (.slice (some ad) 128 c)).run Tryd.prog W = .ok (.string (strOfNums b)) W := fun W h => by
      have := Kd.C_string (P := Tryd.prog) (c := c) Tryd.underlying22 Tryd.underlying5 Tryd.underlying9 h
      rw [HBL.out] at this
      exact this
    have HIM := Aside0.mk (image_okB s idx (G : Int) (loadO b) HLK.out HLM.out)
    obtain ⟨S1, hS1⟩ : ∃ S1, strOfNums (imageB s idx (G : Int) (loadO b)) = S1 := ⟨_, rfl⟩
    obtain ⟨S2, hS2⟩ : ∃ S2, strOfNums b = S2 := ⟨_, rfl⟩
    rw [hS2] at hs1
    have HS1 := Aside0.mk hs1
    have HS2 := Aside0.mk hS1
    have HS3 := Aside0.mk hS2
    clear hS1 hS2 hs1
    cases h5 : okO3 b s idx with
    | false =>
      have hne : (S1.toList == S2.toList) = false := by
        rw [← HS2.out, ← HS3.out, strOfNums_inj HIM.out HOK.out]
        have := of_decide_eq_false h5
        rw [HGE.out] at this
        exact decide_eq_false this
      have E0 : Aside0 (openL b s idx = ([], 0, 40)) := ⟨by rw [openL, if_neg (by simp [okO, h5])]⟩
      clear h5
      go_wp2_with (go_at_call 26; refine (refFrame.calls_ok s idx (G : Int) _ _ (loadO b) _ (Kd.R_reads' HR1.out).2.2 (Kd.R_reads' HR1.out).2.1 HLK.out hs HF.out).mono ?_; rintro e w4 ⟨v4, rfl, hr4, hb4⟩; obtain ⟨A4, c4, rfl⟩ := Kd.R_slice hr4; have HR4 := Aside0.mk hr4; have HB4 := Aside0.mk hb4; clear hr4 hb4; have HB5 := Aside0.mk (below_step HB1.out HB4.out); have hs1 := HS1.out w4 (Kd.C_below HR.out HB5.out); have hs2 := Kd.C_string (P := Tryd.prog) (c := c4) Tryd.underlying22 Tryd.underlying5 Tryd.underlying9 (Kd.R_reads' HR4.out).2.2; rw [HS2.out] at hs2)
      refine bodyPost_ret (results_tmp3 rfl _ _ _) rfl ?_
      rw [E0.out]
      exact ⟨_, rfl, Kd.R_nil _ _ _ _ _, HB5.out⟩
    | true =>
      obtain rfl : S1 = S2 := by
        rw [← HS2.out, ← HS3.out]
        have := of_decide_eq_true h5
        rw [HGE.out] at this
        rw [this]
      have E0 : Aside0 (openL b s idx = (loadO b, (G : Int), 0)) := ⟨by
        have := HIX
        have h17 : lenO b ≤ 106 := by have := HLL.out; have := HLM.out; omega
        rw [openL, if_pos, HGE.out]
        simp only [okO, okO1, okO2, h5, HGE.out, Bool.and_eq_true, decide_eq_true_eq]
        exact ⟨⟨⟨⟨⟨HBL.out, h17⟩, this.1.1⟩, this.1.2⟩, hG2⟩, trivial⟩⟩
      clear h5
      go_wp2_with (go_at_call 26; refine (refFrame.calls_ok s idx (G : Int) _ _ (loadO b) _ (Kd.R_reads' HR1.out).2.2 (Kd.R_reads' HR1.out).2.1 HLK.out hs HF.out).mono ?_; rintro e w4 ⟨v4, rfl, hr4, hb4⟩; obtain ⟨A4, c4, rfl⟩ := Kd.R_slice hr4; have HR4 := Aside0.mk hr4; have HB4 := Aside0.mk hb4; clear hr4 hb4; have HB5 := Aside0.mk (below_step HB1.out HB4.out); have hs1 := HS1.out w4 (Kd.C_below HR.out HB5.out); have hs2 := Kd.C_string (P := Tryd.prog) (c := c4) Tryd.underlying22 Tryd.underlying5 Tryd.underlying9 (Kd.R_reads' HR4.out).2.2; rw [HS2.out] at hs2)
      refine bodyPost_ret (results_tmp3 rfl _ _ _) rfl ?_
      rw [E0.out]
      exact ⟨_, rfl, Kd.R_below HR1.out HB4.out, HB5.out⟩
end Go.Proofs.YtmaoleabfmokpaaDoor.G

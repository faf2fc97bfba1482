/- The plain law PlanGone. -/
import Derived.Test.YthjfffgddegmoaaGGone
import Derived.Test.YthjfffgddegmoaaGPlanM
import Derived.Deep.DeepMust
namespace Go.Proofs.Ythjfffgddegmoaa.G.PlanGone
open Go.RowKit Go.Proofs.Ythjfffgddegmoaa.G Go.Proofs.Ythjfffgddegmoaa.PA Go.Proofs.YthjfffgddegmoaaW.PrintWords Go.Proofs.YthjfffgddegmoaaW.PrintLast Go.Proofs.YthjfffgddegmoaaW.PrintMore
set_option linter.unusedVariables false
set_option linter.unusedSimpArgs false
set_option maxHeartbeats 2000000 in
set_option maxRecDepth 100000 in
theorem walk (A0 : Option Addr) (c0 : Nat) (l0 : List S30) (a : Int) (w : World) (hr : Kd.C k30 w A0 l0.length l0) (hc : l0.length ≤ c0) (hw : ∀ x ∈ l0, wfS x) (ha : (Lit.int .i64 a).wf = true) :
    Calls Try.prog 4 #[.slice A0 l0.length c0, .int .i64 a] w fun e w' => e = .returned (.bool true) ∧ Below w.heap.size w w' := by
  have HV := Aside0.mk (show Kd.V k30 30 w w.heap.size (fun k => k < w.heap.size) (.slice A0 l0.length c0) l0 from Kd.V_mk hc (Kd.C_F k30_heap hr))
  obtain ⟨L, hL⟩ : ∃ L, l0.take 14 = L := ⟨_, rfl⟩
  have hlen : L.length ≤ 14 := by rw [← hL, List.length_take]; omega
  have HCU : Aside0 (dryrotlaw16_cut.f l0 = some L) := ⟨by rw [cut_f, hL]⟩
  have HX : Aside0 (plan_Expired.f L a = some (sel a L)) := ⟨by rw [plan_Expired.f, if_pos (by omega)]⟩
  have hsl := sel_len a L
  have HSL : Aside0 ((sel a L).length ≤ 14) := ⟨by omega⟩
  have HLEN := Aside0.mk hlen
  clear hr hc hw ha hL hlen hsl
  go_enter Try.func4, Try.ntmps4
  go_wp2_with (first
    | (go_at_call 13; (with_reducible refine (dryrotlaw16_cut.calls (fun k => k < w.heap.size) _ _ l0 L _ HV.out HCU.out).mono ?_); rintro e w1 ⟨v1, rfl, hv1, hb⟩; obtain ⟨A1, c1, rfl⟩ := Kd.V_slice hv1; have HC1 := Aside0.mk (Kd.V_reads' hv1); have HB1 := Aside0.mk hb; clear hv1 hb)
    | (go_at_call 14; (with_reducible refine (plan_Expired.calls _ _ L a _ _ HC1.out.2.2 HC1.out.2.1 HX.out).mono ?_); rintro e w2 ⟨v2, rfl, hr2, hb⟩; obtain ⟨A2, c2, rfl⟩ := Kd.R_slice hr2; have HC2 := Aside0.mk (Kd.R_reads' hr2); have HB2 := Aside0.mk (below_step HB1.out hb); have HCL := Aside0.mk (Kd.C_below HC1.out.2.2 hb); clear hr2 hb))
  go_loopw [6, 16] (fun v i wr => ∃ k : Nat, k ≤ L.length ∧ i = .int .i64 k ∧ Aside0 (Kd.N k30 30 wr w2.heap.size (fun _ => True) v (left a (L.take k))) ∧ Aside0 (Below w2.heap.size w2 wr)) (fun _ i _ => L.length - (intOf i).toNat)
  case atStart => exact ⟨0, Nat.zero_le _, rfl, ⟨Kd.N_nil _ _ _ _ _⟩, ⟨Below.refl _ _⟩⟩
  case round =>
    obtain ⟨k, hk, rfl, HN, HB⟩ := hrel
    have hl14 : L.length ≤ 14 := HLEN.out
    by_cases hlt : k < L.length
    · obtain ⟨ad, A7, c7, rfl, h0, h1, h2, h3, h4, h5, h6, h7, l7, g7⟩ := at_T30 HCL.out (k : Int) (by omega) (by omega)
      rw [Int.toNat_natCast] at h0 h1 h2 h3 h4 h5 h6 h7
      replace h0 := pw_cell_below HB.out h0
      replace h1 := pw_cell_below HB.out h1
      replace h2 := pw_cell_below HB.out h2
      replace h3 := pw_cell_below HB.out h3
      replace h4 := pw_cell_below HB.out h4
      replace h5 := pw_cell_below HB.out h5
      replace h6 := pw_cell_below HB.out h6
      replace h7 := pw_cell_below HB.out h7
      have G7 := Aside0.mk (Kd.C_F (Kd.heap_int .i64) g7)
      have L7 := Aside0.mk l7
      have HST := Aside0.mk (left_take a L k hlt)
      have HHS := Aside0.mk (fun h => sel_has a L k hlt h)
      clear g7 l7
      generalize rd_T30 L (k : Int) = x at h0 h1 h2 h3 h4 h5 h6 h7 HST HHS G7 L7
      by_cases hg1 : x.f5 < a
      · have d1 : decide (a ≤ x.f5) = false := decide_eq_false (by omega)
        have HGT : Aside0 (gone a x = true) := ⟨by simp [gone, hg1]⟩
        have HCO : Aside0 (slices_Contains_int_int.f 100 (sel a L) x.f0 = some true) := ⟨by rw [contains_f _ _ (by have := HSL.out; omega) _ (by have := HSL.out; omega), HHS.out HGT.out]⟩
        clear hg1
        go_wp2_with (first | (go_at_call 15; refine (slices_Contains_int_int.calls 100 _ _ (sel a L) x.f0 true _ (Kd.C_alloc (Kd.C_below HC2.out.2.2 HB.out) _) HC2.out.2.1 HCO.out).mono ?_; rintro e w5 ⟨rfl, hd⟩; have HB5 := Aside0.mk (below_step (below_alloc HB.out _) hd.below); have HN5 := Aside0.mk (Kd.N_below (Kd.N_alloc HN.out _) hd.below); clear hd) | go_in)
        go_roundw
        case rel => exact ⟨k + 1, by omega, by go_num, ⟨by rw [HST.out, if_pos HGT.out, List.append_nil]; exact HN5.out⟩, HB5⟩
        case measure => simp [intOf]; omega
      · have d1 : decide (a ≤ x.f5) = true := decide_eq_true (by omega)
        by_cases hg2 : x.f6 = 0
        · have d2 : (x.f6 != 0) = false := bne_eq_false_iff_eq.2 hg2
          have HGT : Aside0 (gone a x = true) := ⟨by simp [gone, hg2]⟩
          have HCO : Aside0 (slices_Contains_int_int.f 100 (sel a L) x.f0 = some true) := ⟨by rw [contains_f _ _ (by have := HSL.out; omega) _ (by have := HSL.out; omega), HHS.out HGT.out]⟩
          clear hg1 hg2
          go_wp2_with (first | (go_at_call 15; refine (slices_Contains_int_int.calls 100 _ _ (sel a L) x.f0 true _ (Kd.C_alloc (Kd.C_below HC2.out.2.2 HB.out) _) HC2.out.2.1 HCO.out).mono ?_; rintro e w5 ⟨rfl, hd⟩; have HB5 := Aside0.mk (below_step (below_alloc HB.out _) hd.below); have HN5 := Aside0.mk (Kd.N_below (Kd.N_alloc HN.out _) hd.below); clear hd) | go_in)
          go_roundw
          case rel => exact ⟨k + 1, by omega, by go_num, ⟨by rw [HST.out, if_pos HGT.out, List.append_nil]; exact HN5.out⟩, HB5⟩
          case measure => simp [intOf]; omega
        · have d2 : (x.f6 != 0) = true := bne_iff_ne.2 hg2
          have HGT : Aside0 (gone a x = false) := ⟨by simp [gone, hg1, hg2]⟩
          clear hg1 hg2
          go_wp2_with (first | ((with_reducible refine gate_dst (N := 32) rfl ?_); go_loud (refine Kd.N_append (w0 := w2) k30 w2.heap.size rfl (.tmp 29) (.tmp 31) 25 30 _ 80 rfl Try.underlying25 info30 rfl (by decide) (by decide) u6 (left a (L.take k)) x [.int .i64 x.f0, .int .i64 x.f1, .int .i64 x.f2, .int .i64 x.f3, .int .i64 x.f4, .int .i64 x.f5, .int .i64 x.f6, .slice A7 x.f7.length c7] (fun _ => True) (fun k => k < w2.heap.size) rfl ?hx (k30_mkF _ _ x L7.out ?hf) ?hokp (fun _ _ => trivial) ?hN ?hBB ?hb ?hl ?_); (case hx => (refine (Eq.trans (b := Value.slice (some ⟨wr.heap.size + 1, 0, none⟩) 1 1) rfl ?_); simp)); go_loud (case hf => exact Kd.F_below G7.out (below_alloc HB.out _)); go_loud (case hokp => (intro q hq; refine ⟨trivial, fun he => ?_⟩; have := Kd.N_base HN.out q he.symm; omega)); (case hN => exact Kd.N_alloc HN.out _); (case hBB => exact below_alloc HB.out _); go_loud (case hb => (have := HB.out.size; simp; omega)); go_loud (case hl => (have := left_len a (L.take k); have := HLEN.out; rw [List.length_take] at *; omega)); intro v4 w4 hN4 hB4 hg4 ho4; have HN4 := Aside0.mk hN4; have HB4 := Aside0.mk hB4; clear hN4 hB4 hg4 ho4) | go_in)
          go_roundw
          case rel => exact ⟨k + 1, by omega, by go_num, ⟨by rw [HST.out, if_neg (by rw [HGT.out]; simp)]; exact HN4.out⟩, HB4⟩
          case measure => simp [intOf]; omega
    · obtain rfl : k = L.length := by omega
      rw [List.take_length] at HN
      obtain ⟨A6, c6, rfl⟩ := Kd.N_slice HN.out
      have HNR := Aside0.mk (Kd.N_reads' HN.out)
      have HXL : Aside0 (plan_Expired.f (left a L) a = some []) := ⟨by rw [plan_Expired.f, if_pos (by have := left_len a L; have := HLEN.out; omega), sel_of_left]⟩
      have HC1' : Aside0 (plan_Can.f L = some (canAll L)) := ⟨by rw [plan_Can.f, if_pos (by have := HLEN.out; omega)]⟩
      have hsum : (wrap64 (((sel a L).length : Int) + ((left a L).length : Int)) == (L.length : Int)) = true := by
        have := sel_left a L
        rw [beq_iff_eq, w64 (by omega) (by omega)]
        omega
      clear hl14
      have HB3 := Aside0.mk (below_then HB2.out HB2.out.size HB.out)
      cases hcan : canAll L with
      | true =>
        have HC2' : Aside0 (plan_Can.f (left a L) = some true) := ⟨by rw [plan_Can.f, if_pos (by have := left_len a L; have := HLEN.out; omega), can_left a L hcan]⟩
        rw [hcan] at HC1'
        clear hcan hlt
        go_wp2_with (first
          | (go_at_call 14; (with_reducible refine (plan_Expired.calls A6 _ (left a L) a _ _ HNR.out.2.2 HNR.out.2.1 HXL.out).mono ?_); rintro e w7 ⟨v7, rfl, hr7, hb⟩; obtain ⟨A9, c9, rfl⟩ := Kd.R_slice hr7; have HB7 := Aside0.mk (below_then HB3.out HB3.out.size hb); have HK7 := Aside0.mk hb; clear hr7 hb)
          | (go_at_call 16; (with_reducible refine (plan_Can.calls A1 _ L true _ (Kd.C_below HCL.out (below_then HB.out HB.out.size HK7.out)) HC1.out.2.1 HC1'.out).mono ?_); rintro e w8 ⟨rfl, hb⟩; have HB8 := Aside0.mk (below_then HB7.out HB7.out.size hb); have HK8 := Aside0.mk (below_then HK7.out HK7.out.size hb); clear hb)
          | (go_at_call 16; (with_reducible refine (plan_Can.calls A6 _ (left a L) true _ (Kd.C_below HNR.out.2.2 HK8.out) HNR.out.2.1 HC2'.out).mono ?_); rintro e w9 ⟨rfl, hb⟩; have HB9 := Aside0.mk (below_then HB8.out HB8.out.size hb); clear hb)
          | (go_at_call 12; (with_reducible refine (dryrotlaw16_awake.calls true _ awake_f).mono ?_); rintro e w10 ⟨rfl, hb⟩; have HB10 := Aside0.mk (below_then HB9.out HB9.out.size hb); clear hb))
        go_ret
        exact ⟨rfl, HB10.out⟩
      | false =>
        rw [hcan] at HC1'
        clear hcan hlt
        go_wp2_with (first
          | (go_at_call 14; (with_reducible refine (plan_Expired.calls A6 _ (left a L) a _ _ HNR.out.2.2 HNR.out.2.1 HXL.out).mono ?_); rintro e w7 ⟨v7, rfl, hr7, hb⟩; obtain ⟨A9, c9, rfl⟩ := Kd.R_slice hr7; have HB7 := Aside0.mk (below_then HB3.out HB3.out.size hb); have HK7 := Aside0.mk hb; clear hr7 hb)
          | (go_at_call 16; (with_reducible refine (plan_Can.calls A1 _ L false _ (Kd.C_below HCL.out (below_then HB.out HB.out.size HK7.out)) HC1.out.2.1 HC1'.out).mono ?_); rintro e w8 ⟨rfl, hb⟩; have HB9 := Aside0.mk (below_then HB7.out HB7.out.size hb); clear hb)
          | (go_at_call 12; (with_reducible refine (dryrotlaw16_awake.calls true _ awake_f).mono ?_); rintro e w10 ⟨rfl, hb⟩; have HB10 := Aside0.mk (below_then HB9.out HB9.out.size hb); clear hb))
        go_ret
        exact ⟨rfl, HB10.out⟩
end Go.Proofs.Ythjfffgddegmoaa.G.PlanGone

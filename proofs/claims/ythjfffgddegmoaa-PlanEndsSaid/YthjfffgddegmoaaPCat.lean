/- slices.Grow of nil, and slices.Concat, over footers: a row of the call's own, whose elements' rows are only read. -/
import Derived.Test.YthjfffgddegmoaaPA0
import Derived.Test.YthjfffgddegmoaaPMerge
import Derived.Deep.DeepMust
namespace Go.Proofs.Ythjfffgddegmoaa.PA
open Go.RowKit Go.Proofs.Ythjfffgddegmoaa.G Go.Proofs.YthjfffgddegmoaaW.PrintWords Go.Proofs.YthjfffgddegmoaaW.PrintLast Go.Proofs.YthjfffgddegmoaaW.PrintMore
set_option linter.unusedVariables false
set_option linter.unusedSimpArgs false

set_option maxHeartbeats 2000000 in
set_option maxRecDepth 100000 in
theorem grow.calls (n : Int) (w : World) (h0 : 0 ≤ n) (h1 : n ≤ 1000000) :
    Calls Try.prog 39 #[.slice none 0 0, .int .i64 n] w fun e w' => ∃ v : Value, e = .returned v ∧ Kd.N k30 30 w' w.heap.size (fun _ => True) v [] ∧ Below w.heap.size w w' := by
  have hneg : decide (n < 0) = false := decide_eq_false (by omega)
  have hw : IntKind.i64.wrap n = n := by rw [IntKind.wrap_i64]; omega
  have HB0 : Aside0 (Below w.heap.size w w) := ⟨Below.refl _ _⟩
  obtain ⟨i05, hi05, _, hsz5, _⟩ := info_parts info30
  have hcut0 := cut_to (P := Try.prog) 25 30 .i64 Try.underlying25 hi05 none 0 0 0 (by omega) (by omega) (by omega)
  have HN0 : Aside0 (0 ≤ n ∧ n ≤ 1000000) := ⟨h0, h1⟩
  clear h0 h1
  go_enter Try.func39, Try.ntmps39
  by_cases hp : 0 < n
  · have hd : decide (0 < n) = true := decide_eq_true hp
    have HP := Aside0.mk hp
    clear hp
    go_wp2_with (first | ((with_reducible refine gate_dst (N := 22) rfl ?_); go_must (refine Kd.N_append_zeros k30 (w0 := w) w.heap.size rfl (.tmp 20) (.tmp 21) 25 3 30 (.agg #[(.int .i64 0), (.int .i64 0), (.int .i64 0), (.int .i64 0), (.int .i64 0), (.int .i64 0), (.int .i64 0), (.slice none 0 0)]) 80 rfl Try.underlying25 Try.underlying3 info30 rfl (by decide) (by omega) (.slice none 0 0) [] z30 n (fun _ => True) rfl rfl (k30_mkF _ _ z30 (Nat.le_refl _) (Kd.F_nil _ _ _)) (fun _ _ => trivial) (Kd.N_nil _ _ _ _ _) HN0.out.1 (Below.refl _ _) (Nat.le_refl _) ?h6 ?_); (case h6 => (have := HN0.out; simp only [List.length_nil]; omega)); intro v4 w4 hR4 hB4 hg4 ho4; obtain ⟨g4, c4, rfl, hb4, hl4, _⟩ := Kd.N_form hR4 (by have := HP.out; simp only [List.nil_append, List.length_replicate]; omega); have hcc := (Kd.N_reads' hR4).2.1; have hcut4 := cut_to (P := Try.prog) 25 30 .i64 Try.underlying25 hi05 (some ⟨g4, 0, none⟩) _ c4 0 (by omega) (by omega) hcc; have HR4 := Aside0.mk (Kd.N_take hR4 (Nat.zero_le _)); have HB4 := Aside0.mk hB4; clear hR4 hB4 hg4 ho4))
    go_ret
    exact ⟨_, rfl, HR4.out, HB4.out⟩
  · obtain rfl : n = 0 := by have := HN0.out; omega
    go_wp2
    go_ret
    exact ⟨_, rfl, Kd.N_nil _ _ _ _ _, Below.refl _ _⟩

theorem cell_below {w w' : World} {a : Addr} {v : Value} (h : w.cell? a = some v) (hb : Below w.heap.size w w') : w'.cell? a = some v := by
  have hlt : a.block < w.heap.size := by
    rcases Nat.lt_or_ge a.block w.heap.size with q | q
    · exact q
    · unfold World.cell? at h
      rw [Array.getElem?_eq_none (by omega)] at h
      cases h
  exact (hb.cell hlt).trans h
theorem flat_step (Ls : List (List S30)) (k : Nat) (hk : k < Ls.length) : (Ls.take (k + 1)).flatten = (Ls.take k).flatten ++ rd_L3 Ls (k : Int) := by
  have e : rd_L3 Ls (k : Int) = Ls[k] := by simp [rd_L3, List.getD_eq_getElem?_getD, List.getElem?_eq_getElem hk]
  rw [List.take_succ_eq_append_getElem hk, List.flatten_append, e]
  simp
theorem flat_le (Ls : List (List S30)) (k : Nat) : (Ls.take k).flatten.length ≤ Ls.flatten.length := by
  have : Ls.flatten.length = (Ls.take k).flatten.length + (Ls.drop k).flatten.length := by rw [← List.length_append, ← List.flatten_append, List.take_append_drop]
  omega
set_option maxHeartbeats 2000000 in
set_option maxRecDepth 100000 in
theorem concat.calls (A0 : Option Addr) (c0 : Nat) (Ls : List (List S30)) (w : World) (hr0 : Kd.C (Kd.slice 30 k30) w A0 Ls.length Ls) (hlen : Ls.length ≤ 1000000) (hflat : Ls.flatten.length ≤ 1000000) :
    Calls Try.prog 27 #[.slice A0 Ls.length c0] w fun e w' => ∃ v : Value, e = .returned v ∧ Kd.N k30 30 w' w.heap.size (fun _ => True) v Ls.flatten ∧ Below w.heap.size w w' := by
  have HR := Aside0.mk hr0
  have HL := Aside0.mk hflat
  clear hr0 hflat
  go_enter Try.func27, Try.ntmps27
  go_wp2
  go_loopw [3, 11] (fun s i wr => ∃ k : Nat, k ≤ Ls.length ∧ i = .int .i64 k ∧ s = .int .i64 (((Ls.take k).flatten.length : Nat) : Int) ∧ Aside0 (Below w.heap.size w wr)) (fun _ i _ => Ls.length - (intOf i).toNat)
  case atStart => exact ⟨0, Nat.zero_le _, rfl, rfl, ⟨Below.refl _ _⟩⟩
  case round =>
    obtain ⟨k, hk, rfl, rfl, HB⟩ := hrel
    by_cases hlt : k < Ls.length
    · obtain ⟨ad, A1, c1, rfl, h0, _, _⟩ := at_L3 (Kd.C_below HR.out HB.out) (k : Int) (by omega) (by omega)
      rw [Int.toNat_natCast] at h0
      have hst := flat_step Ls k hlt
      have hle1 := flat_le Ls (k + 1)
      have hlL := HL.out
      have HST : Aside0 ((((Ls.take (k + 1)).flatten.length : Nat) : Int) = ((Ls.take k).flatten.length : Int) + ((rd_L3 Ls (k : Int)).length : Int)) := ⟨by rw [hst, List.length_append]; omega⟩
      have hneg : decide (((Ls.take k).flatten.length : Int) + ((rd_L3 Ls (k : Int)).length : Int) < 0) = false := decide_eq_false (by omega)
      have hw : IntKind.i64.wrap (((Ls.take k).flatten.length : Int) + ((rd_L3 Ls (k : Int)).length : Int)) = ((Ls.take k).flatten.length : Int) + ((rd_L3 Ls (k : Int)).length : Int) := by rw [IntKind.wrap_i64]; have := HST.out; omega
      clear hst hle1 hlL
      generalize rd_L3 Ls (k : Int) = y at h0 HST hneg hw
      generalize (Ls.take k).flatten.length = m at HST hneg hw
      go_wp2
      go_roundw
      case rel => exact ⟨k + 1, by omega, by go_num, by rw [HST.out], HB⟩
      case measure => simp [intOf]; omega
    · obtain rfl : k = Ls.length := by omega
      rw [List.take_length]
      have HL0 : Aside0 ((0 : Int) ≤ (Ls.flatten.length : Int) ∧ (Ls.flatten.length : Int) ≤ 1000000) := ⟨by have := HL.out; omega⟩
      generalize Ls.flatten.length = N at HL0 ⊢
      go_wp2_with (first | (go_at_call 39; (with_reducible refine (grow.calls (N : Int) _ HL0.out.1 HL0.out.2).mono ?_); rintro e w2 ⟨v2, rfl, hr2, hb2⟩; have HR2 := Aside0.mk (Kd.N_lower hr2 HB.out.size); have HB2 := Aside0.mk (below_step HB.out hb2); clear hr2 hb2))
      go_loopw [6, 27] (fun v i wq => ∃ k : Nat, k ≤ Ls.length ∧ i = .int .i64 k ∧ Aside0 (Kd.N k30 30 wq w.heap.size (fun _ => True) v (Ls.take k).flatten) ∧ Aside0 (Below w.heap.size w wq)) (fun _ i _ => Ls.length - (intOf i).toNat)
      case atStart => exact ⟨0, Nat.zero_le _, rfl, HR2, HB2⟩
      case round =>
        clear HR2 HB2 HB
        obtain ⟨k, hk, rfl, HO, HB⟩ := hrel
        by_cases hlt : k < Ls.length
        · obtain ⟨ad, A1, c1, rfl, h0, _, hC⟩ := at_L3 HR.out (k : Int) (by omega) (by omega)
          rw [Int.toNat_natCast] at h0
          have h0' := cell_below h0 HB.out
          have HF := Aside0.mk (Kd.F_below (Kd.C_F k30_heap hC) HB.out)
          have HST := Aside0.mk (flat_step Ls k hlt)
          have HLE := Aside0.mk (flat_le Ls (k + 1))
          clear h0 hC
          generalize rd_L3 Ls (k : Int) = y at h0' HST HF
          go_wp2_with (first | ((with_reducible refine gate_dst (N := 33) rfl ?_); go_must (refine Kd.N_append_rows k30 (w0 := w) w.heap.size rfl (.tmp 31) (.tmp 32) 25 30 (.agg #[(.int .i64 0), (.int .i64 0), (.int .i64 0), (.int .i64 0), (.int .i64 0), (.int .i64 0), (.int .i64 0), (.slice none 0 0)]) 80 rfl Try.underlying25 info30 rfl (by decide) (by omega) _ (Ls.take k).flatten y A1 y.length c1 (fun _ => True) (fun q => q < w.heap.size) rfl rfl HO.out HF.out ?h1 (fun _ _ => trivial) HB.out HB.out.size ?h6 ?_); (case h1 => (intro q hq; refine ⟨trivial, fun e => ?_⟩; have := Kd.N_base HO.out _ e.symm; omega)); (case h6 => (have h1 := HST.out; have h2 := HLE.out; have h3 := HL.out; rw [h1, List.length_append] at h2; omega)); intro v4 w4 hR4 hB4 hg4 ho4; have HR4 := Aside0.mk hR4; have HB4 := Aside0.mk hB4; clear hR4 hB4 hg4 ho4))
          go_roundw
          case rel => exact ⟨k + 1, by omega, by go_num, ⟨by rw [HST.out]; exact HR4.out⟩, HB4⟩
          case measure => simp [intOf]; omega
        · obtain rfl : k = Ls.length := by omega
          go_wp2
          go_ret
          exact ⟨_, rfl, by have := HO.out; rwa [List.take_length] at this, HB.out⟩
end Go.Proofs.Ythjfffgddegmoaa.PA

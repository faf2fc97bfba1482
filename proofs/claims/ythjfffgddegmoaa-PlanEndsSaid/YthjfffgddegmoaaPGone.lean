/- Contracts of plan's functions that go by function values: Expired. -/
import Derived.Test.YthjfffgddegmoaaPA0
import Derived.Test.YthjfffgddegmoaaGW
import Derived.Deep.DeepMust
namespace Go.Proofs.Ythjfffgddegmoaa.PA
open Go.RowKit Go.Proofs.Ythjfffgddegmoaa.G Go.Proofs.YthjfffgddegmoaaW.PrintWords Go.Proofs.YthjfffgddegmoaaW.PrintLast Go.Proofs.YthjfffgddegmoaaW.PrintMore
set_option linter.unusedVariables false
set_option linter.unusedSimpArgs false

/-- the numbers of those that lie below a floor, or have nothing -/
def gone (floor : Int) (x : S30) : Bool := decide (x.f5 < floor) || decide (x.f6 = 0)
def sel (floor : Int) (l : List S30) : List Int := (l.filter (gone floor)).map (·.f0)
def plan_Expired.f (l : List S30) (a1 : Int) : Option (List Int) := if l.length ≤ 1000000 then some (sel a1 l) else none
theorem sel_take (floor : Int) (l : List S30) (k : Nat) (hk : k < l.length) : sel floor (l.take (k + 1)) = sel floor (l.take k) ++ if gone floor (rd_T30 l (k : Int)) = true then [(rd_T30 l (k : Int)).f0] else [] := by
  have e : rd_T30 l (k : Int) = l[k] := by simp [rd_T30, List.getD_eq_getElem?_getD, List.getElem?_eq_getElem hk]
  rw [List.take_succ_eq_append_getElem hk, e]
  unfold sel
  rw [List.filter_append, List.map_append, List.filter_cons]
  split <;> simp
theorem sel_len (floor : Int) (l : List S30) : (sel floor l).length ≤ l.length := by
  unfold sel
  rw [List.length_map]
  exact List.length_filter_le _ _

set_option maxHeartbeats 2000000 in
set_option maxRecDepth 100000 in
theorem plan_Expired.calls (A0 : Option Addr) (c0 : Nat) (l0 : List (S30)) (a1 : Int) (r : List Int) (w : World) (hr0 : Kd.C k30 w A0 l0.length l0) (hc0 : l0.length ≤ c0) (h : plan_Expired.f l0 a1 = some r) :
    Calls Try.prog 14 #[.slice A0 l0.length c0, .int .i64 a1] w fun e w' => ∃ v0_ : Value, e = .returned (v0_) ∧ Kd.R (Kd.int .i64) 3 w' w.heap.size (fun _ => True) v0_ r ∧ Below w.heap.size w w' := by
  unfold plan_Expired.f at h
  split at h
  case isFalse => cases h
  case isTrue hlen =>
  obtain rfl := Option.some.inj h
  clear h
  have HR := Aside0.mk hr0
  clear hr0 hc0
  go_enter Try.func14, Try.ntmps14
  go_wp2_with (first | go_in)
  have HB0 : Aside0 (Below w.heap.size w (w.alloc (.cells #[.int .i64 a1] 3))) := ⟨below_alloc (Below.refl _ _) _⟩
  have hF0 : (w.alloc (.cells #[.int .i64 a1] 3)).heap[w.heap.size]? = some (.cells #[.int .i64 a1] 3 (0, 0)) := blk_new w _
  have HS0 : Aside0 (w.heap.size < (w.alloc (.cells #[.int .i64 a1] 3)).heap.size) := ⟨by simp⟩
  have HF0 := Aside0.mk hF0
  clear hF0
  go_loopw [7, 12] (fun v i wr => ∃ k : Nat, k ≤ l0.length ∧ i = .int .i64 k ∧ Aside0 (Kd.R (Kd.int .i64) 3 wr w.heap.size (fun q => q ≠ w.heap.size) v (sel a1 (l0.take k))) ∧ Aside0 (wr.heap[w.heap.size]? = some (.cells #[.int .i64 a1] 3 (0, 0))) ∧ Aside0 (Below w.heap.size w wr)) (fun _ i _ => l0.length - (intOf i).toNat)
  case atStart => exact ⟨0, Nat.zero_le _, rfl, ⟨Kd.R_nil _ _ _ _ _⟩, HF0, HB0⟩
  case round =>
    clear HB0 HS0 HF0
    obtain ⟨k, hk, rfl, HO, HF, HB⟩ := hrel
    by_cases hlt : k < l0.length
    · have hcf : wr.cell? ⟨w.heap.size, 0, none⟩ = some (.int .i64 a1) := blk_cell HF.out 0
      have hsz := blk_lt HF.out
      have hC := Kd.C_below HR.out HB.out
      obtain ⟨ad, A7, c7, rfl, h0, h1, h2, h3, h4, h5, h6, h7, _, _⟩ := at_T30 hC (k : Int) (by omega) (by omega)
      rw [Int.toNat_natCast] at h0 h1 h2 h3 h4 h5 h6 h7
      have HST := Aside0.mk (sel_take a1 l0 k hlt)
      have HSL := Aside0.mk (sel_len a1 (l0.take k))
      have HSZ := Aside0.mk (blk_lt HF.out)
      clear hC
      generalize rd_T30 l0 (k : Int) = x at h0 h1 h2 h3 h4 h5 h6 h7 HST
      by_cases hg1 : x.f5 < a1
      · have hd : decide (x.f5 < a1) = true := decide_eq_true hg1
        have HG : Aside0 (gone a1 x = true) := ⟨by simp [gone, hg1]⟩
        clear hg1
        go_wp2_with (first | ((with_reducible refine gate_dst (N := 24) rfl ?_); go_must (refine Kd.R_append_row (w0 := w) (Value.int .i64) 0 (h1 := fun _ => rfl) w.heap.size rfl (.tmp 19) (.tmp 23) 27 3 (.int .i64 0) 8 rfl Try.underlying27 info3 rfl (by decide) u7 (sel a1 (l0.take k)) [x.f0] _ 1 _ (fun q => q ≠ w.heap.size) rfl rfl ?h1 ?h2 (C_lit_at (Value.int .i64) 0 (h1 := fun _ => rfl) _ 3 #[.int .i64 x.f0] (0, 0) [x.f0] _ 1 rfl (by simp) ?h7 rfl) ?h4 ?h5 ?h6 ?_); (case h1 => (intro q hq hq2; subst hq2; simp at hq; have := HSZ.out; omega)); (case h2 => ((with_reducible repeat (first | apply Kd.R_alloc | apply Kd.R_drewN | apply Kd.R_drew)); exact HO.out)); (case h4 => (repeat (first | (with_reducible first | exact HB.out | apply below_alloc | apply pw_below_drewN | apply below_drew1) | exact HB.out))); (case h5 => (have := HB.out.size; simp; omega)); (case h7 => simp); (case h6 => (have := HSL.out; rw [List.length_take] at this; omega)); intro v4 w4 hR4 hB4 hg4 ho4; have HR4 := Aside0.mk hR4; have HB4 := Aside0.mk hB4; have HG4 := Aside0.mk hg4; clear hR4 hB4 hg4 ho4) | go_in)
        go_roundw
        case rel =>
          refine ⟨k + 1, by omega, by go_num, ⟨?_⟩, ⟨?_⟩, HB4⟩
          · rw [HST.out, if_pos HG.out]
            exact HR4.out
          · refine (HG4.out.block _ (by simp; omega) (fun e => HO.out.1 _ e.symm rfl)).trans ?_
            refine ((?_ : Below wr.heap.size wr _).block _ hsz).trans HF.out
            repeat (first | exact Below.refl _ _ | apply below_alloc)
        case measure => simp [intOf]; omega
      · have hd : decide (x.f5 < a1) = false := decide_eq_false hg1
        by_cases hg2 : x.f6 = 0
        · have hd2 : (x.f6 == 0) = true := beq_iff_eq.2 hg2
          have HG : Aside0 (gone a1 x = true) := ⟨by simp [gone, hg2]⟩
          clear hg1 hg2
          go_wp2_with (first | ((with_reducible refine gate_dst (N := 24) rfl ?_); go_must (refine Kd.R_append_row (w0 := w) (Value.int .i64) 0 (h1 := fun _ => rfl) w.heap.size rfl (.tmp 19) (.tmp 23) 27 3 (.int .i64 0) 8 rfl Try.underlying27 info3 rfl (by decide) u7 (sel a1 (l0.take k)) [x.f0] _ 1 _ (fun q => q ≠ w.heap.size) rfl rfl ?h1 ?h2 (C_lit_at (Value.int .i64) 0 (h1 := fun _ => rfl) _ 3 #[.int .i64 x.f0] (0, 0) [x.f0] _ 1 rfl (by simp) ?h7 rfl) ?h4 ?h5 ?h6 ?_); (case h1 => (intro q hq hq2; subst hq2; simp at hq; have := HSZ.out; omega)); (case h2 => ((with_reducible repeat (first | apply Kd.R_alloc | apply Kd.R_drewN | apply Kd.R_drew)); exact HO.out)); (case h4 => (repeat (first | (with_reducible first | exact HB.out | apply below_alloc | apply pw_below_drewN | apply below_drew1) | exact HB.out))); (case h5 => (have := HB.out.size; simp; omega)); (case h7 => simp); (case h6 => (have := HSL.out; rw [List.length_take] at this; omega)); intro v4 w4 hR4 hB4 hg4 ho4; have HR4 := Aside0.mk hR4; have HB4 := Aside0.mk hB4; have HG4 := Aside0.mk hg4; clear hR4 hB4 hg4 ho4) | go_in)
          go_roundw
          case rel =>
            refine ⟨k + 1, by omega, by go_num, ⟨?_⟩, ⟨?_⟩, HB4⟩
            · rw [HST.out, if_pos HG.out]
              exact HR4.out
            · refine (HG4.out.block _ (by simp; omega) (fun e => HO.out.1 _ e.symm rfl)).trans ?_
              refine ((?_ : Below wr.heap.size wr _).block _ hsz).trans HF.out
              repeat (first | exact Below.refl _ _ | apply below_alloc)
          case measure => simp [intOf]; omega
        · have hd2 : (x.f6 == 0) = false := beq_eq_false_iff_ne.2 hg2
          have HG : Aside0 (gone a1 x = false) := ⟨by simp [gone, hg1, hg2]⟩
          clear hg1 hg2
          go_wp2_with go_in
          go_roundw
          case rel =>
            refine ⟨k + 1, by omega, by go_num, ⟨?_⟩, ⟨?_⟩, ⟨?_⟩⟩
            · rw [HST.out, if_neg (by rw [HG.out]; simp), List.append_nil]
              repeat (first | exact HO.out | apply Kd.R_alloc)
            · refine ((?_ : Below wr.heap.size wr _).block _ hsz).trans HF.out
              repeat (first | exact Below.refl _ _ | apply below_alloc)
            · repeat (first | exact HB.out | apply below_alloc)
          case measure => simp [intOf]; omega
    · obtain rfl : k = l0.length := by omega
      go_wp2
      rw [List.take_length] at HO
      go_ret
      exact ⟨_, rfl, Kd.R_mono HO.out (fun _ _ => trivial), HB.out⟩
end Go.Proofs.Ythjfffgddegmoaa.PA

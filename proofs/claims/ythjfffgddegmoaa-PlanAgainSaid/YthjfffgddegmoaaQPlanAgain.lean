/- The row of the law PlanAgain, out of its walk: for every input the law answers true and its arguments stay; no condition of its own. The row's frame is the guide's; written by a program of this session (wip/mkrow.py). -/
import Derived.Test.YthjfffgddegmoaaT5
import Derived.Test.YthjfffgddegmoaaT4
import Derived.Test.YthjfffgddegmoaaT3
import Derived.Deep.DeepMust
import Derived.Deep.QuietTactic
import Derived.BigQuiet
import Derived.Test.YthjfffgddegmoaaRows
import Derived.WalkKit
import Derived.ProofKit
import Derived.OpenShut
import Derived.ShutString
import Derived.ChangeOld
import Derived.Below
import Derived.SizedLaws
import Derived.Deep.DeepHandedRow
import Derived.Lib.LaidTab
import Derived.Lib.SmallJoins
import Derived.Test.YthjfffgddegmoaaWSized
import Derived.Test.YthjfffgddegmoaaT1
namespace Go.Proofs.Ythjfffgddegmoaa.G.PlanAgain
open Go.RowKit Go.Proofs.Ythjfffgddegmoaa.G Go.Proofs.Ythjfffgddegmoaa.G.PlanLive Go.Proofs.Ythjfffgddegmoaa.PA Go.Proofs.YthjfffgddegmoaaW.PrintWords Go.Proofs.YthjfffgddegmoaaW.PrintLast Go.Proofs.YthjfffgddegmoaaW.PrintMore
set_option linter.unusedVariables false
set_option linter.unusedSimpArgs false
set_option maxHeartbeats 4000000 in
set_option maxRecDepth 100000 in
theorem walk (A0 : Option Addr) (c0 : Nat) (l0 : List S30) (gen floor : Int) (w : World) (hr : Kd.C k30 w A0 l0.length l0) (hc : l0.length ≤ c0) (hw : ∀ x ∈ l0, wfS x ∧ x.f7.length * 8 ≤ 140737488351232) (ha : (Lit.int .i64 gen).wf = true) (hb : (Lit.int .i64 floor).wf = true) :
    Calls Try.prog 9 #[.slice A0 l0.length c0, .int .i64 gen, .int .i64 floor] w fun e w' => e = .returned (.bool true) ∧ Below w.heap.size w w' := by
  have HV := Aside0.mk (show Kd.V k30 30 w w.heap.size (fun k => k < w.heap.size) (.slice A0 l0.length c0) l0 from Kd.V_mk hc (Kd.C_F k30_heap hr))
  obtain ⟨L, hL⟩ : ∃ L, l0.take 14 = L := ⟨_, rfl⟩
  have hlen : L.length ≤ 14 := by rw [← hL, List.length_take]; omega
  have HCU : Aside0 (dryrotlaw16_cut.f l0 = some L) := ⟨by rw [cut_f, hL]⟩
  have HP : Aside0 (∀ x ∈ L, x.f7.length ≤ 17592186044415) := ⟨fun x hx => by have := (hw x (List.mem_of_mem_take (by rw [hL]; exact hx))).2; omega⟩
  have HLEN := Aside0.mk hlen
  have hll := liveL_len L gen floor
  have hpl : ∀ x ∈ liveL L gen floor, x.f7.length ≤ 17592186044415 := fun x hx => HP.out x (liveL_mem L gen floor x hx)
  have hparts := live_parts L gen floor
  have hnot := live_not L gen floor
  have hrise := live_rise L gen floor
  have hagain := live_live L gen floor
  obtain ⟨V, hV⟩ : ∃ V, liveL L gen floor = V := ⟨_, rfl⟩
  rw [hV] at hll hpl hparts hnot hrise hagain
  have HPL := Aside0.mk hpl
  have HPT := Aside0.mk hparts
  have HNT := Aside0.mk hnot
  have HRI := Aside0.mk hrise
  have HAG := Aside0.mk hagain
  have hv14 : V.length ≤ 14 := by omega
  have HVE := Aside0.mk hV
  clear hr hc hw ha hb hL hlen hV hll hpl hparts hnot hrise hagain
  go_enter Try.func9, Try.ntmps9
  go_wp2_with (first
    | (go_at_call 13; (with_reducible refine (dryrotlaw16_cut.calls (fun k => k < w.heap.size) _ _ l0 L _ HV.out HCU.out).mono ?_); rintro e w1 ⟨v1, rfl, hv1, hb⟩; obtain ⟨A1, c1, rfl⟩ := Kd.V_slice hv1; have HC1 := Aside0.mk (Kd.V_reads' hv1); have HB1 := Aside0.mk hb; clear hv1 hb)
    | (go_at_call 29; go_must (refine (plan_Live.calls A1 c1 L gen floor _ HC1.out.2.2 HLEN.out HP.out).mono ?_; rintro e w2 ⟨A2, c2, rfl, hl2, hr2, hb⟩; rw [HVE.out] at hl2 hr2 ⊢; have HL2 := Aside0.mk hl2; have HR2 := Aside0.mk hr2; have HB2 := Aside0.mk (below_step HB1.out hb); clear hl2 hr2 hb)))
  go_loopw [20] (fun i wr => ∃ k : Nat, k ≤ V.length ∧ i = .int .i64 k ∧ Aside0 (Below w2.heap.size w2 wr)) (fun i _ => V.length - (intOf i).toNat)
  case atStart => exact ⟨0, Nat.zero_le _, rfl, ⟨Below.refl _ _⟩⟩
  case round =>
    obtain ⟨i, hi, rfl, HB⟩ := hrel
    by_cases hlt : i < V.length
    · have hC := Kd.C_below HR2.out HB.out
      obtain ⟨ad, A7, c7, rfl, h0, h1, h2, h3, h4, h5, h6, h7, l7, g7⟩ := at_T30 hC (i : Int) (by omega) (by omega)
      rw [Int.toNat_natCast] at h0 h1 h2 h3 h4 h5 h6 h7
      have hvi : V[i]? = some (rd_T30 V (i : Int)) := by rw [rd_nat V i hlt, List.getElem?_eq_getElem hlt]
      have hgx := (HPT.out _ (List.mem_of_getElem? hvi)).1
      have HVI := Aside0.mk hvi
      clear l7 g7 hvi
      obtain ⟨x, hx⟩ : ∃ x, rd_T30 V (i : Int) = x := ⟨_, rfl⟩
      rw [hx] at h0 h1 h2 h3 h4 h5 h6 h7 HVI hgx
      have HX := Aside0.mk hx
      clear hx
      have d1 : decide (gen < x.f1) = false := decide_eq_false (by omega)
      go_wp2
      have hw1 := blk_new wr (.cells #[.int .i64 x.f0, .int .i64 x.f1, .int .i64 x.f2, .int .i64 x.f3, .int .i64 x.f4, .int .i64 x.f5, .int .i64 x.f6, .slice A7 x.f7.length c7] 30 (0, 0))
      have HB5 := Aside0.mk (below_alloc HB.out (.cells #[.int .i64 x.f0, .int .i64 x.f1, .int .i64 x.f2, .int .i64 x.f3, .int .i64 x.f4, .int .i64 x.f5, .int .i64 x.f6, .slice A7 x.f7.length c7] 30 (0, 0)))
      have HC5 := Aside0.mk (Kd.C_alloc hC (.cells #[.int .i64 x.f0, .int .i64 x.f1, .int .i64 x.f2, .int .i64 x.f3, .int .i64 x.f4, .int .i64 x.f5, .int .i64 x.f6, .slice A7 x.f7.length c7] 30 (0, 0)))
      have HW1 := Aside0.mk hw1
      have hx1 := blk_cell hw1 1
      have hx3 := blk_cell hw1 3
      clear hw1 hC h0 h1 h2 h3 h4 h5 h6 h7 hgx
      generalize wr.alloc (.cells #[.int .i64 x.f0, .int .i64 x.f1, .int .i64 x.f2, .int .i64 x.f3, .int .i64 x.f4, .int .i64 x.f5, .int .i64 x.f6, .slice A7 x.f7.length c7] 30 (0, 0)) = W5 at hx1 hx3 HB5 HC5 HW1 ⊢
      go_cut [43] (fun v wx => v = .bool false ∧ Aside0 (∃ nq, wx = W5.drewN nq))
      case first =>
        rcases i with _ | i
        · go_quiet (fail)
          go_wp2_with fail
          go_meet
          exact ⟨rfl, ⟨nq, rfl⟩⟩
        · obtain ⟨ad', B7, e7, hh, _, _, _, i3, _⟩ := at_T30 HC5.out (i : Int) (by omega) (by omega)
          obtain rfl := Option.some.inj hh
          rw [Int.toNat_natCast] at i3
          have hi1 : i < V.length := by omega
          have hrr : ¬ x.f3 < (rd_T30 V (i : Int)).f3 := by
            have h9 := HRI.out i hlt
            rw [HX.out] at h9
            omega
          have d3 : decide (x.f3 < (rd_T30 V (i : Int)).f3) = false := decide_eq_false hrr
          have hpos : decide ((0 : Int) < ((i + 1 : Nat) : Int)) = true := decide_eq_true (by omega)
          have hsub : IntKind.i64.wrap (((i + 1 : Nat) : Int) - 1) = (i : Int) := by rw [IntKind.wrap_i64]; omega
          have hsub2 : wrap64 (((i + 1 : Nat) : Int) - 1) = (i : Int) := by rw [w64 (by omega) (by omega)]; omega
          clear hrr hh
          go_quiet (fail)
          go_wp2_with fail
          go_meet
          exact ⟨rfl, ⟨nq, rfl⟩⟩
      case rest =>
        obtain ⟨rfl, HQ⟩ := hcut
        have hq : Below W5.heap.size W5 wc := by obtain ⟨nq, e⟩ := HQ.out; rw [e]; exact pw_below_drewN (Below.refl _ _) nq
        have HB6 := Aside0.mk (below_step HB5.out hq)
        have HW6 := Aside0.mk (blk_below HW1.out hq)
        clear hq HQ hx1 hx3 HB HC5 HB5 HW1
        generalize wr.heap.size = g9 at HW6 ⊢
        go_wp2
        go_loopw [46] (fun j wq => ∃ k : Nat, k ≤ V.length ∧ j = .int .i64 k ∧ Aside0 (Below w2.heap.size w2 wq) ∧ Aside0 (wq.heap[g9]? = some (.cells #[.int .i64 x.f0, .int .i64 x.f1, .int .i64 x.f2, .int .i64 x.f3, .int .i64 x.f4, .int .i64 x.f5, .int .i64 x.f6, .slice A7 x.f7.length c7] 30 (0, 0)))) (fun j _ => V.length - (intOf j).toNat)
        case atStart => exact ⟨0, Nat.zero_le _, rfl, HB6, HW6⟩
        case round =>
          clear HB6 HW6
          obtain ⟨k, hk, rfl, HB, HW⟩ := hrel
          by_cases hlk : k < V.length
          · obtain ⟨ad', B7, e7, hh, j0, j1, j2, j3, j4, j5, j6, j7, m7, n7⟩ := at_T30 (Kd.C_below HR2.out HB.out) (k : Int) (by omega) (by omega)
            obtain rfl := Option.some.inj hh
            rw [Int.toNat_natCast] at j0 j1 j2 j3 j4 j5 j6 j7
            have hvk : V[k]? = some (rd_T30 V (k : Int)) := by rw [rd_nat V k hlk, List.getElem?_eq_getElem hlk]
            have HP7 : Aside0 ((rd_T30 V (k : Int)).f7.length ≤ 17592186044416) := ⟨Nat.le_succ_of_le (HPL.out _ (List.mem_of_getElem? hvk))⟩
            have HCC : Aside0 (k ≠ i → (rd_T30 V (k : Int)).f7.contains x.f0 = false) := ⟨HNT.out i k x _ HVI.out hvk⟩
            have N7 := Aside0.mk n7
            have M7 := Aside0.mk m7
            have hxc := fun o => cell_alloc_old o (blk_cell HW.out 0)
            clear hh hvk n7 m7
            generalize rd_T30 V (k : Int) = y at j0 j1 j2 j3 j4 j5 j6 j7 HP7 HCC N7 M7
            by_cases hki : k = i
            · have hb1 : ((k : Int) != (i : Int)) = false := bne_eq_false_iff_eq.2 (by omega)
              have HBA := Aside0.mk (fun o => below_alloc HB.out o)
              have HWA := Aside0.mk (fun o => blk_alloc HW.out o)
              clear hki
              go_wp2
              go_roundw
              case rel => exact ⟨k + 1, by omega, by go_num, ⟨HBA.out _⟩, ⟨HWA.out _⟩⟩
              case measure => simp [intOf]; omega
            · have hb1 : ((k : Int) != (i : Int)) = true := bne_iff_ne.2 (by omega)
              have HC0 := Aside0.mk (HCC.out hki)
              clear hki
              go_wp2_with (first | (go_at_call 15; go_must (refine (contains_c.calls B7 e7 y.f7 x.f0 false _ (Kd.C_alloc N7.out _) M7.out HP7.out HC0.out).mono ?_; rintro e w5 ⟨rfl, hm⟩; have HBN : Aside0 (Below w2.heap.size w2 w5) := ⟨by obtain ⟨m, rfl⟩ := hm; exact pw_below_drewN (below_alloc HB.out _) m⟩; have HWN := Aside0.mk (show w5.heap[g9]? = _ from by obtain ⟨m, rfl⟩ := hm; exact blk_drewN (blk_alloc HW.out _) m); clear hm)))
              go_roundw
              case rel => exact ⟨k + 1, by omega, by go_num, HBN, HWN⟩
              case measure => simp [intOf]; omega
          · obtain rfl : k = V.length := by omega
            go_wp2
            go_roundw
            case rel => exact ⟨i + 1, by omega, by go_num, HB⟩
            case measure => simp [intOf]; omega
    · obtain rfl : i = V.length := by omega
      have HR2B := Aside0.mk (Kd.C_below HR2.out HB.out)
      have HPL2 : Aside0 (∀ x ∈ V, x.f7.length ≤ 17592186044416) := ⟨fun x hx => Nat.le_succ_of_le (HPL.out x hx)⟩
      have HB3 := Aside0.mk (below_then HB2.out HB2.out.size HB.out)
      go_wp2_with (first
        | (go_at_call 29; go_must (refine (plan_Live.calls A2 c2 V gen floor _ HR2B.out hv14 HPL.out).mono ?_; rintro e w4 ⟨A4, c4, rfl, hl4, hr4, hb⟩; rw [HAG.out] at hl4 hr4 ⊢; have HR4 := Aside0.mk hr4; have HR24 := Aside0.mk (Kd.C_below HR2B.out hb); have HB4 := Aside0.mk (below_step HB3.out hb); clear hl4 hr4 hb))
        | (go_at_call 28; go_must (refine (sameFooters.calls A4 A2 c4 c2 V _ HR4.out HR24.out (by omega) HPL2.out).mono ?_; rintro e w6 ⟨rfl, hb⟩; have HB6 := Aside0.mk (below_step HB4.out hb); clear hb))
        | (go_at_call 12; (with_reducible refine (dryrotlaw16_awake.calls true _ awake_f).mono ?_); rintro e w7 ⟨rfl, hb⟩; have HB7 := Aside0.mk (below_step HB6.out hb); clear hb))
      go_ret
      exact ⟨rfl, HB7.out⟩
end Go.Proofs.Ythjfffgddegmoaa.G.PlanAgain
namespace Go.Proofs.Ythjfffgddegmoaa.planAgain
open Go.ChangeShapes Go.WideShapes Go.ChangeAt Go.RowKit
open Go.ChangeMaps (open_string shut_string)
open Go.Proofs.YthjfffgddegmoaaW
set_option linter.unusedVariables false
set_option linter.unusedSimpArgs false

theorem own : ownKnob Try.prog.godebug = none := by kernel_rfl
theorem laidOut : laidOutB Try.prog = true := by kernel_rfl
def IsRow (k : IntKind) (w : World) (a : Option Addr) (len cap : Nat) (zs : List Int) : Prop :=
  (a = none ∧ len = 0 ∧ cap = 0 ∧ zs = []) ∨
  ∃ x, a = some x ∧ len ≤ cap ∧ cap ≤ maxLen ∧ zs.length = cap ∧ (∀ i, i < zs.length → w.cell? (x.add i) = some (.int k (zs.getD i 0))) ∧ ∀ n ∈ zs, (Lit.int k n).wf = true
theorem reads (os : Os) {H : Type} (enc : TypeId × Value → H) : ∃ places, DataW.whole enc Try.prog ((World.holding Try.prog os ⟨#[], #[], []⟩).forCall (fun _ _ => 0) ⟨#[], #[.slice none 0 0, .int .i64 0, .int .i64 0], []⟩).memory Try.f9.params.toList Rows.planAgainSpec.vars false #[(Value.slice none 0 0), .int .i64 0, .int .i64 0].toList 8 = some ([.nil, .lit (.int .i64 0), .lit (.int .i64 0)], [], places) :=
  ⟨[], by kernel_rfl⟩
theorem laid_met (os : Os) : laidMet Try.prog Rows.planAgainRow.laid ((World.holding Try.prog os ⟨#[], #[], []⟩).forCall (fun _ _ => 0) ⟨#[], #[.slice none 0 0, .int .i64 0, .int .i64 0], []⟩).memory :=
  laidMet_of_run' 8 (by kernel_rfl) (by kernel_rfl)
set_option maxRecDepth 100000 in
theorem lifted (os : Os) (started : os.Started) (H : Type) (enc : TypeId × Value → H) (F : Stop.Interp) :
    ReturnsInHanded {} Try.checked os 9 .any ((OpenSpec.ofChange Rows.planAgainSpec).preRow enc Try.prog Try.f9 Rows.planAgainRow.domain false Rows.planAgainRow.laid) (((OpenSpec.ofChange Rows.planAgainSpec).at F).post enc Try.prog Try.f9 false true false false) := by
  obtain ⟨places, hx⟩ := reads os enc
  refine returnsInHanded_of_row (C := Try.checked) (s := (OpenSpec.ofChange Rows.planAgainSpec)) own started (by kernel_rfl) Try.func9
    (witness_row_at (enc := enc) (C := Try.checked) false (World.holding Try.prog os ⟨#[], #[], []⟩) #[.slice none 0 0, .int .i64 0, .int .i64 0] rfl (by kernel_rfl) (by kernel_rfl) (by kernel_rfl)
      (OpenSpec.preRow_of_cond 8 hx (by kernel_rfl) (fun k hk => by cases hk) (by kernel_rfl) (laid_met os))) ?_
  intro W base args ds gs before hval0 hW _ hcond hsz0 hL _ _
  have hsz : (DataW.weightsEach Try.prog (Try.f9.params.toList ++ Rows.planAgainSpec.plain.varTypes Try.prog) (ds ++ gs)).all (· ≤ reachBytes) = true := hsz0
  have hval : ∀ (j : Nat) t v, Try.f9.params[j]? = some t → args[j]? = some v → Value.okWide Try.prog W .any base t v := hval0
  have hW' := hW
  obtain ⟨p, q, hA0, hV, rfl, hfz, hnd⟩ := hW
  have hA : DataW.TrodAll enc Try.prog W 0 (fun _ => true) true Try.f9.params.toList args.toList ds p := hA0
  rw [Try.params9] at hA hval hsz
  obtain ⟨v0, vs0, d0, ds0, p0, q0, hargs, rfl, rfl, h0, r0⟩ := trodAll_cons hA
  obtain ⟨v1, vs1, d1, ds1, p1, q1, rfl, rfl, rfl, h1, r1⟩ := trodAll_cons r0
  obtain ⟨v2, vs2, d2, ds2, p2, q2, rfl, rfl, rfl, h2, r2⟩ := trodAll_cons r1
  obtain ⟨rfl, rfl, rfl⟩ := trodAll_nil r2
  obtain rfl : args = #[v0, v1, v2] := by cases args; simp_all
  obtain ⟨rfl, rfl⟩ := trodVars_none hV
  have k0 := h0
  have lt0 : ∀ x ∈ p0, x.block < W.heap.size := by obtain ⟨m, hm⟩ := k0; exact DataW.trod_lt m _ _ _ hm
  obtain ⟨a0, cap0, l0, rfl, hr0, hc0, hw0⟩ := G.open_rowsS25 (okWide_slice Try.underlying25 (hval 0 25 v0 rfl rfl)) hsz h0
  obtain ⟨a1, rfl, rfl, rfl, w1⟩ := open_int Try.underlying3 (hval 1 3 v1 rfl rfl) h1
  obtain ⟨a2, rfl, rfl, rfl, w2⟩ := open_int Try.underlying3 (hval 2 3 v2 rfl rfl) h2
  clear hA0 hval0 hsz0 hsz
  refine (G.PlanAgain.walk a0 cap0 l0 a1 a2 W hr0 hc0 hw0 w1 w2).mono fun e W' ⟨he, bel⟩ => ?_
  subst he
  exact ⟨_, rfl, _, _, _, [], _, [], hW', trodAll_mk1 (shut_bool Try.underlying4 _), (trodAll_cons_mk (Below.trod laidOut (by kernel_rfl) (of_decide_eq_true (by kernel_rfl)) k0 bel lt0) (trodAll_cons_mk (shut_int Try.underlying3 w1) (trodAll_cons_mk (shut_int Try.underlying3 w2) trodAll_mk0))), rfl, bel.frame _, fun h => by cases h⟩

theorem said : Rows.PlanAgainSaid :=
  OpenClaim.holds_of_cond 9 Try.f9 rfl rfl rfl rfl rfl rfl rfl ⟨rfl, rfl, rfl, rfl, rfl⟩ rfl rfl rfl rfl rfl (by kernel_rfl) Try.func9 (by kernel_rfl)
    (of_decide_eq_true (by kernel_rfl)) (by unfold Func.isWrapper; first | (rw [if_pos (by decide +kernel)]; kernel_rfl) | (rw [if_neg (by decide +kernel)]; exact ⟨rfl, rfl⟩))
    (fun os started H enc _ F => by rw [OpenClaim.pre_eq_preRow]; exact lifted os started H enc F)
theorem proved : Rows.PlanAgainSaid := said
#print axioms proved
end Go.Proofs.Ythjfffgddegmoaa.planAgain

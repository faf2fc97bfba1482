/- The row of the law PlanLive, out of its walk: for every input the law answers true and its arguments stay; no condition of its own. The row's frame is the guide's; written by a program of this session (wip/mkrow.py). -/
import Derived.Test.YthjfffgddegmoaaT3
import Derived.Test.YthjfffgddegmoaaT4
import Derived.Deep.DeepMust
import Derived.Test.YthjfffgddegmoaaRows
import Derived.WalkKit
import Derived.ProofKit
import Derived.OpenShut
import Derived.ShutString
import Derived.ChangeOld
import Derived.Below
import Derived.SizedLaws
import Derived.Deep.DeepHandedRow
import Derived.Lib.LaidTab
import Derived.Lib.SmallJoins
import Derived.Test.YthjfffgddegmoaaWSized
import Derived.Test.YthjfffgddegmoaaT1
namespace Go.Proofs.Ythjfffgddegmoaa.G.PlanLive
open Go.RowKit Go.Proofs.Ythjfffgddegmoaa.G Go.Proofs.Ythjfffgddegmoaa.PA Go.Proofs.YthjfffgddegmoaaW.PrintWords Go.Proofs.YthjfffgddegmoaaW.PrintLast Go.Proofs.YthjfffgddegmoaaW.PrintMore
set_option linter.unusedVariables false
set_option linter.unusedSimpArgs false
theorem insS_len (l : List S30) (x : S30) : (insS l x).length = l.length + 1 := by
  have := posE_le l x l.length
  simp [insS]
  omega
theorem sortS_len : ∀ (r acc : List S30), (sortS acc r).length = acc.length + r.length
  | [], acc => rfl
  | x :: r, acc => by rw [sortS, sortS_len r, insS_len, List.length_cons]; omega
theorem insS_mem (l : List S30) (x e : S30) : e ∈ insS l x ↔ e = x ∨ e ∈ l := by
  unfold insS
  rw [List.mem_append, List.mem_cons]
  constructor
  · rintro (h | h | h)
    · exact .inr (List.mem_of_mem_take h)
    · exact .inl h
    · exact .inr (List.mem_of_mem_drop h)
  · rintro (h | h)
    · exact .inr (.inl h)
    · rw [← List.take_append_drop (posE l x l.length) l, List.mem_append] at h
      rcases h with h | h
      · exact .inl h
      · exact .inr (.inr h)
theorem sortS_mem (e : S30) : ∀ (r acc : List S30), e ∈ sortS acc r ↔ e ∈ acc ∨ e ∈ r
  | [], acc => by simp [sortS]
  | x :: r, acc => by
    rw [sortS, sortS_mem e r, insS_mem, List.mem_cons]
    constructor
    · rintro ((h | h) | h) <;> simp [h]
    · rintro (h | h | h) <;> simp [h]
theorem keepG_mem (l : List S30) (gen floor : Int) (e : S30) : ∀ (xs : List S30) (i : Nat), e ∈ keepG l gen floor xs i → e ∈ xs
  | [], _, h => h
  | x :: r, i, h => by
    rw [keepG] at h
    split at h
    · rcases List.mem_cons.1 h with q | q
      · rw [q]; exact List.mem_cons_self ..
      · exact List.mem_cons_of_mem _ (keepG_mem l gen floor e r (i + 1) q)
    · exact List.mem_cons_of_mem _ (keepG_mem l gen floor e r (i + 1) h)
theorem liveL_len (l : List S30) (gen floor : Int) : (liveL l gen floor).length ≤ l.length := by
  have := keepG_len l gen floor l 0
  rw [liveL, sortS_len]
  simp only [List.length_nil]
  omega
theorem liveL_mem (l : List S30) (gen floor : Int) (e : S30) (h : e ∈ liveL l gen floor) : e ∈ l := by
  rw [liveL, sortS_mem] at h
  rcases h with h | h
  · cases h
  · exact keepG_mem l gen floor e l 0 h
set_option maxHeartbeats 2000000 in
set_option maxRecDepth 100000 in
theorem walk (A0 : Option Addr) (c0 : Nat) (l0 : List S30) (gen floor : Int) (w : World) (hr : Kd.C k30 w A0 l0.length l0) (hc : l0.length ≤ c0) (hw : ∀ x ∈ l0, wfS x ∧ x.f7.length * 8 ≤ 140737488351232) (ha : (Lit.int .i64 gen).wf = true) (hb : (Lit.int .i64 floor).wf = true) :
    Calls Try.prog 8 #[.slice A0 l0.length c0, .int .i64 gen, .int .i64 floor] w fun e w' => e = .returned (.bool true) ∧ Below w.heap.size w w' := by
  have HV := Aside0.mk (show Kd.V k30 30 w w.heap.size (fun k => k < w.heap.size) (.slice A0 l0.length c0) l0 from Kd.V_mk hc (Kd.C_F k30_heap hr))
  obtain ⟨L, hL⟩ : ∃ L, l0.take 14 = L := ⟨_, rfl⟩
  have hlen : L.length ≤ 14 := by rw [← hL, List.length_take]; omega
  have HCU : Aside0 (dryrotlaw16_cut.f l0 = some L) := ⟨by rw [cut_f, hL]⟩
  have HP : Aside0 (∀ x ∈ L, x.f7.length ≤ 17592186044415) := ⟨fun x hx => by have := (hw x (List.mem_of_mem_take (by rw [hL]; exact hx))).2; omega⟩
  have HLEN := Aside0.mk hlen
  obtain ⟨k, hk⟩ := rlive_f L gen floor (by omega) HP.out
  have HK := Aside0.mk hk
  have HPL : Aside0 (∀ x ∈ liveL L gen floor, x.f7.length ≤ 17592186044416) := ⟨fun x hx => Nat.le_succ_of_le (HP.out x (liveL_mem L gen floor x hx))⟩
  have HLL : Aside0 ((liveL L gen floor).length ≤ 1000) := ⟨by have := liveL_len L gen floor; omega⟩
  obtain ⟨V, hV⟩ : ∃ V, liveL L gen floor = V := ⟨_, rfl⟩
  have HVE := Aside0.mk hV
  clear hr hc hw ha hb hL hlen hk hV
  go_enter Try.func8, Try.ntmps8
  go_wp2_with (first
    | (go_at_call 13; (with_reducible refine (dryrotlaw16_cut.calls (fun k => k < w.heap.size) _ _ l0 L _ HV.out HCU.out).mono ?_); rintro e w1 ⟨v1, rfl, hv1, hb⟩; obtain ⟨A1, c1, rfl⟩ := Kd.V_slice hv1; have HC1 := Aside0.mk (Kd.V_reads' hv1); have HB1 := Aside0.mk hb; clear hv1 hb)
    | (go_at_call 29; go_must (refine (plan_Live.calls A1 c1 L gen floor _ HC1.out.2.2 HLEN.out HP.out).mono ?_; rintro e w2 ⟨A2, c2, rfl, hl2, hr2, hb⟩; rw [HVE.out] at hl2 hr2 ⊢; have HL2 := Aside0.mk hl2; have HR2 := Aside0.mk hr2; have HC2 := Aside0.mk (Kd.C_below HC1.out.2.2 hb); have HB2 := Aside0.mk (below_step HB1.out hb); clear hl2 hr2 hb))
    | (go_at_call 30; go_must (refine (dryrotref16_Live.calls k A1 c1 L gen floor V _ HC2.out HC1.out.2.1 (HK.out.trans (by rw [HVE.out]))).mono ?_; rintro e w3 ⟨v3, rfl, hn3, hb⟩; obtain ⟨A3, c3, rfl, hl3, hr3⟩ := Kd.N_reads hn3; have HL3 := Aside0.mk hl3; have HR3 := Aside0.mk hr3; have HR23 := Aside0.mk (Kd.C_below HR2.out hb); have HB3 := Aside0.mk (below_step HB2.out hb); clear hn3 hl3 hr3 hb))
    | (go_at_call 28; go_must (refine (sameFooters.calls A2 A3 c2 c3 V _ HR23.out HR3.out (HVE.out ▸ HLL.out) (HVE.out ▸ HPL.out)).mono ?_; rintro e w4 ⟨rfl, hb⟩; have HB4 := Aside0.mk (below_step HB3.out hb); clear hb))
    | (go_at_call 12; (with_reducible refine (dryrotlaw16_awake.calls true _ awake_f).mono ?_); rintro e w5 ⟨rfl, hb⟩; have HB5 := Aside0.mk (below_step HB4.out hb); clear hb))
  go_ret
  exact ⟨rfl, HB5.out⟩
end Go.Proofs.Ythjfffgddegmoaa.G.PlanLive
namespace Go.Proofs.Ythjfffgddegmoaa.planLive
open Go.ChangeShapes Go.WideShapes Go.ChangeAt Go.RowKit
open Go.ChangeMaps (open_string shut_string)
open Go.Proofs.YthjfffgddegmoaaW
set_option linter.unusedVariables false
set_option linter.unusedSimpArgs false

theorem own : ownKnob Try.prog.godebug = none := by kernel_rfl
theorem laidOut : laidOutB Try.prog = true := by kernel_rfl
def IsRow (k : IntKind) (w : World) (a : Option Addr) (len cap : Nat) (zs : List Int) : Prop :=
  (a = none ∧ len = 0 ∧ cap = 0 ∧ zs = []) ∨
  ∃ x, a = some x ∧ len ≤ cap ∧ cap ≤ maxLen ∧ zs.length = cap ∧ (∀ i, i < zs.length → w.cell? (x.add i) = some (.int k (zs.getD i 0))) ∧ ∀ n ∈ zs, (Lit.int k n).wf = true
theorem reads (os : Os) {H : Type} (enc : TypeId × Value → H) : ∃ places, DataW.whole enc Try.prog ((World.holding Try.prog os ⟨#[], #[], []⟩).forCall (fun _ _ => 0) ⟨#[], #[.slice none 0 0, .int .i64 0, .int .i64 0], []⟩).memory Try.f8.params.toList Rows.planLiveSpec.vars false #[(Value.slice none 0 0), .int .i64 0, .int .i64 0].toList 8 = some ([.nil, .lit (.int .i64 0), .lit (.int .i64 0)], [], places) :=
  ⟨[], by kernel_rfl⟩
theorem laid_met (os : Os) : laidMet Try.prog Rows.planLiveRow.laid ((World.holding Try.prog os ⟨#[], #[], []⟩).forCall (fun _ _ => 0) ⟨#[], #[.slice none 0 0, .int .i64 0, .int .i64 0], []⟩).memory :=
  laidMet_of_run' 8 (by kernel_rfl) (by kernel_rfl)
set_option maxRecDepth 100000 in
theorem lifted (os : Os) (started : os.Started) (H : Type) (enc : TypeId × Value → H) (F : Stop.Interp) :
    ReturnsInHanded {} Try.checked os 8 .any ((OpenSpec.ofChange Rows.planLiveSpec).preRow enc Try.prog Try.f8 Rows.planLiveRow.domain false Rows.planLiveRow.laid) (((OpenSpec.ofChange Rows.planLiveSpec).at F).post enc Try.prog Try.f8 false true false false) := by
  obtain ⟨places, hx⟩ := reads os enc
  refine returnsInHanded_of_row (C := Try.checked) (s := (OpenSpec.ofChange Rows.planLiveSpec)) own started (by kernel_rfl) Try.func8
    (witness_row_at (enc := enc) (C := Try.checked) false (World.holding Try.prog os ⟨#[], #[], []⟩) #[.slice none 0 0, .int .i64 0, .int .i64 0] rfl (by kernel_rfl) (by kernel_rfl) (by kernel_rfl)
      (OpenSpec.preRow_of_cond 8 hx (by kernel_rfl) (fun k hk => by cases hk) (by kernel_rfl) (laid_met os))) ?_
  intro W base args ds gs before hval0 hW _ hcond hsz0 hL _ _
  have hsz : (DataW.weightsEach Try.prog (Try.f8.params.toList ++ Rows.planLiveSpec.plain.varTypes Try.prog) (ds ++ gs)).all (· ≤ reachBytes) = true := hsz0
  have hval : ∀ (j : Nat) t v, Try.f8.params[j]? = some t → args[j]? = some v → Value.okWide Try.prog W .any base t v := hval0
  have hW' := hW
  obtain ⟨p, q, hA0, hV, rfl, hfz, hnd⟩ := hW
  have hA : DataW.TrodAll enc Try.prog W 0 (fun _ => true) true Try.f8.params.toList args.toList ds p := hA0
  rw [Try.params8] at hA hval hsz
  obtain ⟨v0, vs0, d0, ds0, p0, q0, hargs, rfl, rfl, h0, r0⟩ := trodAll_cons hA
  obtain ⟨v1, vs1, d1, ds1, p1, q1, rfl, rfl, rfl, h1, r1⟩ := trodAll_cons r0
  obtain ⟨v2, vs2, d2, ds2, p2, q2, rfl, rfl, rfl, h2, r2⟩ := trodAll_cons r1
  obtain ⟨rfl, rfl, rfl⟩ := trodAll_nil r2
  obtain rfl : args = #[v0, v1, v2] := by cases args; simp_all
  obtain ⟨rfl, rfl⟩ := trodVars_none hV
  have k0 := h0
  have lt0 : ∀ x ∈ p0, x.block < W.heap.size := by obtain ⟨m, hm⟩ := k0; exact DataW.trod_lt m _ _ _ hm
  obtain ⟨a0, cap0, l0, rfl, hr0, hc0, hw0⟩ := G.open_rowsS25 (okWide_slice Try.underlying25 (hval 0 25 v0 rfl rfl)) hsz h0
  obtain ⟨a1, rfl, rfl, rfl, w1⟩ := open_int Try.underlying3 (hval 1 3 v1 rfl rfl) h1
  obtain ⟨a2, rfl, rfl, rfl, w2⟩ := open_int Try.underlying3 (hval 2 3 v2 rfl rfl) h2
  clear hA0 hval0 hsz0 hsz
  refine (G.PlanLive.walk a0 cap0 l0 a1 a2 W hr0 hc0 hw0 w1 w2).mono fun e W' ⟨he, bel⟩ => ?_
  subst he
  exact ⟨_, rfl, _, _, _, [], _, [], hW', trodAll_mk1 (shut_bool Try.underlying4 _), (trodAll_cons_mk (Below.trod laidOut (by kernel_rfl) (of_decide_eq_true (by kernel_rfl)) k0 bel lt0) (trodAll_cons_mk (shut_int Try.underlying3 w1) (trodAll_cons_mk (shut_int Try.underlying3 w2) trodAll_mk0))), rfl, bel.frame _, fun h => by cases h⟩

theorem said : Rows.PlanLiveSaid :=
  OpenClaim.holds_of_cond 8 Try.f8 rfl rfl rfl rfl rfl rfl rfl ⟨rfl, rfl, rfl, rfl, rfl⟩ rfl rfl rfl rfl rfl (by kernel_rfl) Try.func8 (by kernel_rfl)
    (of_decide_eq_true (by kernel_rfl)) (by unfold Func.isWrapper; first | (rw [if_pos (by decide +kernel)]; kernel_rfl) | (rw [if_neg (by decide +kernel)]; exact ⟨rfl, rfl⟩))
    (fun os started H enc _ F => by rw [OpenClaim.pre_eq_preRow]; exact lifted os started H enc F)
theorem proved : Rows.PlanLiveSaid := said
#print axioms proved
end Go.Proofs.Ythjfffgddegmoaa.planLive

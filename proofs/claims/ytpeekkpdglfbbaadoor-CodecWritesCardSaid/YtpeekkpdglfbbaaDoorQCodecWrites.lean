/- The row and the card of the law CodecWrites, out of its walk: for every input the law answers true and its arguments stay; no condition of its own. The row's frame is the guide's; written by a program of this session (wip/mkrow.py). -/
import Derived.Test.YtpeekkpdglfbbaaDoorM3
import Derived.Test.YtpeekkpdglfbbaaDoorM4
import Derived.Test.YtpeekkpdglfbbaaDoorRows
import Derived.Test.YtpeekkpdglfbbaaDoorCards
import Derived.Test.YtpeekkpdglfbbaaDoorTie
import Derived.WalkKit
import Derived.ProofKit
import Derived.OpenShut
import Derived.ShutString
import Derived.ChangeOld
import Derived.Below
import Derived.SizedLaws
import Derived.Deep.DeepHandedRow
import Derived.Lib.LaidTab
import Derived.Lib.SmallJoins
import Derived.Test.YtpeekkpdglfbbaaDoorWSized
import Derived.Test.YtpeekkpdglfbbaaDoorM1
namespace Go.Proofs.YtpeekkpdglfbbaaDoor.PA
open Go.RowKit Go.Proofs.YtpeekkpdglfbbaaDoor.G Go.Proofs.YtpeekkpdglfbbaaDoorW.PrintWords Go.Proofs.YtpeekkpdglfbbaaDoorW.PrintLast Go.Proofs.YtpeekkpdglfbbaaDoorW.PrintMore
set_option linter.unusedVariables false
set_option linter.unusedSimpArgs false
theorem rEncode.calls_at {n : Nat} (A : Option Addr) (c : Nat) (l : List S26) (w : World) (eb : List Int) (ee : Int) (hn : l.length = n) (hr : Kd.C k26 w A l.length l) (hc : l.length ≤ c) (hw : ∀ x ∈ l, okS x) (hlen : l.length ≤ 20000) (he : encF l = (eb, ee)) :
    Calls Tryd.prog 18 #[.slice A n c] w fun e w' => ∃ v : Value, e = .returned (.tuple #[v, .int .i64 ee]) ∧ Kd.R (Kd.int .u8) 5 w' w.heap.size (fun _ => True) v eb ∧ Below w.heap.size w w' := by
  subst hn
  cases h : canS l with
  | true =>
    rw [encF, if_pos h] at he
    obtain ⟨rfl, rfl⟩ := Prod.mk.inj he
    exact rEncode.ok A c l w hr hc hw hlen h
  | false =>
    rw [encF, if_neg (by rw [h]; simp)] at he
    obtain ⟨rfl, rfl⟩ := Prod.mk.inj he
    refine (rEncode.bad A c l w hr hc hlen h).mono ?_
    rintro e w' ⟨rfl, hb⟩
    exact ⟨_, rfl, Kd.R_nil _ _ _ _ _, hb⟩
theorem encF_len (l : List S26) (hok : ∀ x ∈ l, okS x) (hl : l.length ≤ 20000) : (encF l).1.length ≤ 1000000 := by
  cases h : canS l with
  | true =>
    have := dec_enc l hok hl h
    rw [this.1]
    have := this.2.2
    show (encL l).length ≤ _
    omega
  | false => rw [encF, if_neg (by rw [h]; simp)]; simp
end Go.Proofs.YtpeekkpdglfbbaaDoor.PA
namespace Go.Proofs.YtpeekkpdglfbbaaDoor.G.CodecWrites
open Go.RowKit Go.Proofs.YtpeekkpdglfbbaaDoor.PA Go.Proofs.YtpeekkpdglfbbaaDoor.G Go.Proofs.YtpeekkpdglfbbaaDoorW.PrintWords Go.Proofs.YtpeekkpdglfbbaaDoorW.PrintLast Go.Proofs.YtpeekkpdglfbbaaDoorW.PrintMore
set_option linter.unusedVariables false
set_option linter.unusedSimpArgs false
set_option maxHeartbeats 4000000 in
set_option maxRecDepth 100000 in
theorem walk (A : Option Addr) (c : Nat) (l : List S26) (w : World) (hr : Kd.C k26 w A l.length l) (hc : l.length ≤ c) (hw : ∀ x ∈ l, okS x) (hT : TabZ w) :
    Calls Tryd.prog 6 #[.slice A l.length c] w fun e w' => e = .returned (.bool true) ∧ Below w.heap.size w w' := by
  obtain ⟨L, hL⟩ : ∃ L, l.take 60 = L := ⟨_, rfl⟩
  have hl60 : L.length ≤ 60 := by rw [← hL, List.length_take]; omega
  have HRL : Aside0 (Kd.C k26 w A L.length L) := ⟨by rw [← hL]; have := Kd.C_take hr (show (l.take 60).length ≤ l.length by rw [List.length_take]; omega); rwa [show l.take (l.take 60).length = l.take 60 from by rw [List.length_take]; rcases Nat.le_total 60 l.length with h | h; rw [Nat.min_eq_left h]; rw [Nat.min_eq_right h, List.take_length, List.take_of_length_le h]] at this⟩
  have HW : Aside0 (∀ x ∈ L, okS x) := ⟨fun x hx => hw x (List.mem_of_mem_take (hL ▸ hx))⟩
  have HCL : Aside0 (L.length ≤ c) := ⟨by rw [← hL, List.length_take]; omega⟩
  have HC := Aside0.mk hc
  have HLL := Aside0.mk hL
  have H60 := Aside0.mk hl60
  have HT := Aside0.mk hT
  have HEL := Aside0.mk (encF_len L HW.out (by omega))
  obtain ⟨eb, ee, henc⟩ : ∃ eb ee, encF L = (eb, ee) := ⟨_, _, rfl⟩
  have HENC := Aside0.mk henc
  rw [henc] at HEL
  obtain ⟨bc, hbc⟩ : ∃ bc, canS L = bc := ⟨_, rfl⟩
  have HC1 : Aside0 (codec_Can.f 1000 L = some bc) := ⟨by rw [can_S L (by omega) _ (by omega), hbc]⟩
  have HC2 : Aside0 (dryrotref11_Can.f 1000 L = some bc) := ⟨by rw [rcan_S L (by omega) _ (by omega), hbc]⟩
  clear hr hw hc hL hl60 hT henc hbc
  have hee : (ee == ee) = true := beq_iff_eq.2 rfl
  have hbb : (bc == bc) = true := beq_iff_eq.2 rfl
  go_enter Tryd.func6, Tryd.ntmps6
  go_wp2_with (first
    | (go_at_call 16; refine (cut_at A c l L _ HC.out HLL.out).mono ?_; rintro e wa ⟨rfl, hw⟩; rw [hw]; clear hw wa)
    | (go_at_call 17; (with_reducible refine (CloneS.calls A c L _ _ rfl HRL.out HCL.out (Nat.le_trans H60.out (by decide))).mono ?_); rintro e w1 ⟨v1, rfl, hr1, hb⟩; obtain ⟨A1, c1, rfl⟩ := Kd.R_slice hr1; have HO1 := Aside0.mk (Kd.R_reads' hr1); have HB1 := Aside0.mk hb; clear hr1 hb)
    | (go_at_call 8; (with_reducible refine (codec_Encode.calls_at A1 c1 L _ eb ee rfl HO1.out.2.2 HO1.out.2.1 HW.out (Nat.le_trans H60.out (by decide)) (HT.out.below HB1.out) HENC.out).mono ?_); rintro e w2 ⟨v2, rfl, hr2, hb2⟩; obtain ⟨A2, c2, rfl⟩ := Kd.R_slice hr2; have HO2 := Aside0.mk (Kd.R_reads' hr2); have HO12 := Aside0.mk (Kd.C_below HO1.out.2.2 hb2); have HB2 := Aside0.mk (below_step HB1.out hb2); clear hr2 hb2)
    | (go_at_call 18; (with_reducible refine (rEncode.calls_at A c L _ eb ee rfl (Kd.C_below HRL.out HB2.out) HCL.out HW.out (Nat.le_trans H60.out (by decide)) HENC.out).mono ?_); rintro e w3 ⟨v3, rfl, hr3, hb3⟩; obtain ⟨A3, c3, rfl⟩ := Kd.R_slice hr3; have HO3 := Aside0.mk (Kd.R_reads' hr3); have HO13 := Aside0.mk (Kd.C_below HO12.out hb3); have HO23 := Aside0.mk (Kd.C_below HO2.out.2.2 hb3); have HB3 := Aside0.mk (below_step HB2.out hb3); clear hr3 hb3)
    | (go_at_call 14; (with_reducible refine (EqualB A2 c2 A3 c3 eb _ HO23.out HO2.out.2.1 HO3.out.2.2 HO3.out.2.1 HEL.out).mono ?_); rintro e w4 ⟨rfl, hb⟩; have HO14 := Aside0.mk (Kd.C_below HO13.out hb); have HB4 := Aside0.mk (below_step HB3.out hb); clear hb)
    | (go_at_call 15; (with_reducible refine (codec_Can.calls 1000 A c L bc _ (Kd.C_below HRL.out HB4.out) HCL.out HC1.out).mono ?_); rintro e w5 ⟨rfl, hd⟩; have HO15 := Aside0.mk (Kd.C_below HO14.out hd.below); have HB5 := Aside0.mk (below_step HB4.out hd.below); clear hd)
    | (go_at_call 19; (with_reducible refine (dryrotref11_Can.calls 1000 A c L bc _ (Kd.C_below HRL.out HB5.out) HCL.out HC2.out).mono ?_); rintro e w6 ⟨rfl, hd⟩; have HO16 := Aside0.mk (Kd.C_below HO15.out hd.below); have HB6 := Aside0.mk (below_step HB5.out hd.below); clear hd)
    | (go_at_call 11; (with_reducible refine (EqualS A1 c1 A c L _ HO16.out HO1.out.2.1 (Kd.C_below HRL.out HB6.out) HCL.out (Nat.le_trans H60.out (by decide))).mono ?_); rintro e w7 ⟨rfl, hb⟩; have HB7 := Aside0.mk (below_step HB6.out hb); clear hb)
    | (go_at_call 12; (with_reducible refine (PA.awake.calls _ (HT.out.below HB7.out)).mono ?_); rintro e w8 ⟨rfl, hb⟩; have HB8 := Aside0.mk (below_step HB7.out hb); clear hb))
  go_ret
  exact ⟨rfl, HB8.out⟩
end Go.Proofs.YtpeekkpdglfbbaaDoor.G.CodecWrites
namespace Go.Proofs.YtpeekkpdglfbbaaDoor.codecWrites
open Go.ChangeShapes Go.WideShapes Go.ChangeAt Go.RowKit
open Go.ChangeMaps (open_string shut_string)
open Go.Proofs.YtpeekkpdglfbbaaDoorW
set_option linter.unusedVariables false
set_option linter.unusedSimpArgs false

theorem own : ownKnob Tryd.prog.godebug = none := by kernel_rfl
theorem laidOut : laidOutB Tryd.prog = true := by kernel_rfl
def IsRow (k : IntKind) (w : World) (a : Option Addr) (len cap : Nat) (zs : List Int) : Prop :=
  (a = none ∧ len = 0 ∧ cap = 0 ∧ zs = []) ∨
  ∃ x, a = some x ∧ len ≤ cap ∧ cap ≤ maxLen ∧ zs.length = cap ∧ (∀ i, i < zs.length → w.cell? (x.add i) = some (.int k (zs.getD i 0))) ∧ ∀ n ∈ zs, (Lit.int k n).wf = true
theorem g_deBruijn64tab : Tryd.prog.globalNamed "math/bits.deBruijn64tab" = some 0 := by kernel_rfl
theorem t_deBruijn64tab : (Tryd.prog.globals[0]?).map (·.type) = some 80 := by kernel_rfl
theorem c_deBruijn64tab : Tryd.prog.cellsOf 80 = 64 := by kernel_rfl
theorem e_deBruijn64tab : Tryd.prog.cellsOf 5 = 1 := by kernel_rfl
theorem tab_deBruijn64tab {W : World} (h : laidMetH Tryd.prog Rows.codecWritesRow.laid W) : Lib.TabIs Tryd.prog W "math/bits.deBruijn64tab" .u8 [0, 1, 56, 2, 57, 49, 28, 3, 61, 58, 42, 50, 38, 29, 17, 4, 62, 47, 59, 36, 45, 43, 51, 22, 53, 39, 33, 30, 24, 18, 12, 5, 63, 55, 48, 27, 60, 41, 37, 16, 46, 35, 44, 21, 52, 32, 23, 11, 54, 26, 40, 15, 34, 20, 31, 10, 25, 14, 19, 9, 13, 8, 7, 6] :=
  Lib.tabIs_of_head (rest := _) g_deBruijn64tab t_deBruijn64tab Tryd.underlying80 Tryd.underlying5 e_deBruijn64tab c_deBruijn64tab h
theorem db_tab : ∀ j, j < 64 → ([0, 1, 56, 2, 57, 49, 28, 3, 61, 58, 42, 50, 38, 29, 17, 4, 62, 47, 59, 36, 45, 43, 51, 22, 53, 39, 33, 30, 24, 18, 12, 5, 63, 55, 48, 27, 60, 41, 37, 16, 46, 35, 44, 21, 52, 32, 23, 11, 54, 26, 40, 15, 34, 20, 31, 10, 25, 14, 19, 9, 13, 8, 7, 6] : List Int).getD j 0 = ((Lib.deBruijn64tab.getD j 0 : Nat) : Int) := by decide
/-- A world for the witness: the settled one, the tables holding what their initialisers lay. -/
noncomputable def laidWorld (os : Os) : World :=
  { World.holding Tryd.prog os ⟨#[], #[], []⟩ with heap := ((World.holding Tryd.prog os ⟨#[], #[], []⟩).heap).modify 0 fun
      | .cells _ t frozen => .cells #[.int .u8 0, .int .u8 1, .int .u8 56, .int .u8 2, .int .u8 57, .int .u8 49, .int .u8 28, .int .u8 3, .int .u8 61, .int .u8 58, .int .u8 42, .int .u8 50, .int .u8 38, .int .u8 29, .int .u8 17, .int .u8 4, .int .u8 62, .int .u8 47, .int .u8 59, .int .u8 36, .int .u8 45, .int .u8 43, .int .u8 51, .int .u8 22, .int .u8 53, .int .u8 39, .int .u8 33, .int .u8 30, .int .u8 24, .int .u8 18, .int .u8 12, .int .u8 5, .int .u8 63, .int .u8 55, .int .u8 48, .int .u8 27, .int .u8 60, .int .u8 41, .int .u8 37, .int .u8 16, .int .u8 46, .int .u8 35, .int .u8 44, .int .u8 21, .int .u8 52, .int .u8 32, .int .u8 23, .int .u8 11, .int .u8 54, .int .u8 26, .int .u8 40, .int .u8 15, .int .u8 34, .int .u8 20, .int .u8 31, .int .u8 10, .int .u8 25, .int .u8 14, .int .u8 19, .int .u8 9, .int .u8 13, .int .u8 8, .int .u8 7, .int .u8 6] t frozen
      | o => o }
theorem laid_met (os : Os) : laidMet Tryd.prog Rows.codecWritesRow.laid ((laidWorld os).forCall (fun _ _ => 0) ⟨#[], #[.slice none 0 0], []⟩).memory :=
  laidMet_of_run' 8 (by kernel_rfl) (by kernel_rfl)
theorem reads (os : Os) {H : Type} (enc : TypeId × Value → H) : ∃ places, DataW.whole enc Tryd.prog ((laidWorld os).forCall (fun _ _ => 0) ⟨#[], #[.slice none 0 0], []⟩).memory Tryd.f6.params.toList Rows.codecWritesSpec.vars false #[(Value.slice none 0 0)].toList 8 = some ([.nil], [], places) :=
  ⟨[], by kernel_rfl⟩
set_option maxRecDepth 100000 in
theorem lifted (os : Os) (started : os.Started) (H : Type) (enc : TypeId × Value → H) (F : Stop.Interp) :
    ReturnsInHanded {} Tryd.checked os 6 .any ((OpenSpec.ofChange Rows.codecWritesSpec).preRow enc Tryd.prog Tryd.f6 Rows.codecWritesRow.domain false Rows.codecWritesRow.laid) (((OpenSpec.ofChange Rows.codecWritesSpec).at F).post enc Tryd.prog Tryd.f6 false true false false) := by
  obtain ⟨places, hx⟩ := reads os enc
  refine returnsInHanded_of_row (C := Tryd.checked) (s := (OpenSpec.ofChange Rows.codecWritesSpec)) own started (by kernel_rfl) Tryd.func6
    (witness_row_at (enc := enc) (C := Tryd.checked) false (laidWorld os) #[.slice none 0 0] rfl (by kernel_rfl) (by kernel_rfl) (by kernel_rfl)
      (OpenSpec.preRow_of_cond 8 hx (by kernel_rfl) (fun k hk => by cases hk) (by kernel_rfl) (laid_met os))) ?_
  intro W base args ds gs before hval0 hW _ hcond hsz0 hL _ _
  have hsz : (DataW.weightsEach Tryd.prog (Tryd.f6.params.toList ++ Rows.codecWritesSpec.plain.varTypes Tryd.prog) (ds ++ gs)).all (· ≤ reachBytes) = true := hsz0
  have hval : ∀ (j : Nat) t v, Tryd.f6.params[j]? = some t → args[j]? = some v → Value.okWide Tryd.prog W .any base t v := hval0
  have hW' := hW
  obtain ⟨p, q, hA0, hV, rfl, hfz, hnd⟩ := hW
  have hA : DataW.TrodAll enc Tryd.prog W 0 (fun _ => true) true Tryd.f6.params.toList args.toList ds p := hA0
  rw [Tryd.params6] at hA hval hsz
  obtain ⟨v0, vs0, d0, ds0, p0, q0, hargs, rfl, rfl, h0, r0⟩ := trodAll_cons hA
  obtain ⟨rfl, rfl, rfl⟩ := trodAll_nil r0
  obtain rfl : args = #[v0] := by cases args; simp_all
  obtain ⟨rfl, rfl⟩ := trodVars_none hV
  have k0 := h0
  have lt0 : ∀ x ∈ p0, x.block < W.heap.size := by obtain ⟨m, hm⟩ := k0; exact DataW.trod_lt m _ _ _ hm
  obtain ⟨a0, cap0, l0, rfl, hr0, hc0, hw0⟩ := G.open_rows24 (okWide_slice Tryd.underlying24 (hval 0 24 v0 rfl rfl)) h0
  have T_deBruijn64tab := tab_deBruijn64tab hL
  clear hA0 hval0 hsz0 hsz
  refine (G.CodecWrites.walk a0 cap0 l0 W hr0 hc0 hw0 (⟨fun j hj => (T_deBruijn64tab.cell g_deBruijn64tab j hj).trans (congrArg (fun z : Int => some (Value.int .u8 z)) (db_tab j hj))⟩)).mono fun e W' ⟨he, bel⟩ => ?_
  subst he
  exact ⟨_, rfl, _, _, _, [], _, [], hW', trodAll_mk1 (shut_bool Tryd.underlying4 _), (trodAll_cons_mk (Below.trod laidOut (by kernel_rfl) (of_decide_eq_true (by kernel_rfl)) k0 bel lt0) trodAll_mk0), rfl, bel.frame _, fun h => by cases h⟩

theorem said : Rows.CodecWritesSaid :=
  OpenClaim.holds_of_cond 6 Tryd.f6 rfl rfl rfl rfl rfl rfl rfl ⟨rfl, rfl, rfl, rfl, rfl⟩ rfl rfl rfl rfl rfl (by kernel_rfl) Tryd.func6 (by kernel_rfl)
    (of_decide_eq_true (by kernel_rfl)) (by unfold Func.isWrapper; first | (rw [if_pos (by decide +kernel)]; kernel_rfl) | (rw [if_neg (by decide +kernel)]; exact ⟨rfl, rfl⟩))
    (fun os started H enc _ F => by rw [OpenClaim.pre_eq_preRow]; exact lifted os started H enc F)
theorem plain (f : FuncId) (fn : Func) (hf : Tryd.pinned.checked.prog.funcNamed "dryrot/dryrotlaw11.CodecWrites" = some f) (hfn : Tryd.pinned.checked.prog.funcs[f]? = some fn) :
    false = Tryd.pinned.checked.prog.looks [] ∧ ∀ (j : Nat) t, fn.params[j]? = some t → Tryd.pinned.checked.prog.wantsStandIn t = false := by
  obtain rfl : f = 6 := Option.some.inj ((show Tryd.prog.funcNamed "dryrot/dryrotlaw11.CodecWrites" = some 6 by kernel_rfl).symm.trans hf) |>.symm
  obtain rfl : fn = Tryd.f6 := (Option.some.inj (Tryd.func6.symm.trans hfn)).symm
  refine ⟨by kernel_rfl, fun j t ht => ?_⟩
  rw [Tryd.params6] at ht
  have ht := Array.mem_of_getElem? ht
  simp only [List.mem_toArray, List.mem_cons, List.not_mem_nil, or_false] at ht
  rcases ht with rfl
  all_goals first | exact (show Tryd.prog.wantsStandIn 24 = false by kernel_rfl)
/-- THE CARD. -/
theorem proved : Rows.CodecWritesCardSaid :=
  Claim7.holds_tied_plain_at .later [] _ _ _ _ said (fun _ h => by cases h) (by kernel_rfl) (fun _ h => by cases h) codecWrites_row_tie rfl ⟨rfl, rfl⟩ (by kernel_rfl) rfl plain (by kernel_rfl)
#print axioms proved
end Go.Proofs.YtpeekkpdglfbbaaDoor.codecWrites

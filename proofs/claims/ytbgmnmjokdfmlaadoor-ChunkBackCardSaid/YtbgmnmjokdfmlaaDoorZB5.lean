/- Lemmas and contracts that the law ChunkBack leans on (packed by a program of this session out of its texts and the print's words). -/
import Derived.Test.YtbgmnmjokdfmlaaDoorZB2
import Derived.Test.YtbgmnmjokdfmlaaDoorZB4
import Derived.Deep.DeepMust
import Derived.Shelf.Spec.SlicesInsert
import Derived.Lib.AppendZerosOnto
import Derived.WalkSpells
import Derived.Sort.LotA
import Derived.Sort.WalkA
import Derived.Shelf.SlSortCmp.KitK
import Derived.Sort.WalkB2
import Derived.Sort.WalkB12
import Derived.Deep.LoopGhost
import Derived.Deep.DeepCutAuto
namespace Go.Proofs.YtbgmnmjokdfmlaaDoor.PA
open Go.RowKit Go.Proofs.YtbgmnmjokdfmlaaDoorW.PrintWords Go.Proofs.YtbgmnmjokdfmlaaDoorW.PrintLast Go.Proofs.YtbgmnmjokdfmlaaDoorW.PrintMore
attribute [local go_sem] max2_int min2_int max_two min_two max_three min_three max_four min_four   -- for this text's walks alone
set_option linter.unusedVariables false
set_option linter.unusedSimpArgs false
abbrev q1 := @blk_drewN
abbrev q2 := @blk_drew
abbrev q3 := @blk_alloc
abbrev q4 := @below_alloc
abbrev q5 := @pw_below_drewN
abbrev q6 := @below_drew1
abbrev q7 := @below_set
abbrev qb := @List.setIfInBounds_toArray
abbrev qc := @List.set_cons_zero
abbrev qd := @List.set_cons_succ
theorem cz0 {w : World} {g : Nat} {t : TypeId} {a b : Value} (h : w.heap[g]? = some (.cells #[a, b] t (0, 0))) : w.cell? ⟨g, 0, none⟩ = some a := (blk_cell h 0).trans rfl
theorem cz1 {w : World} {g : Nat} {t : TypeId} {a b : Value} (h : w.heap[g]? = some (.cells #[a, b] t (0, 0))) : w.cell? ⟨g, 1, none⟩ = some b := (blk_cell h 1).trans rfl
def dryrotplain_Few.l0 : Nat → Int → Int → List (S60) → List (S60) → Int → Int → Option ((List (S60)))
 | 0, _, _, _, _, _, _ => none
 | k + 1, x1, x2, x7, x10, x11, x12 => if x12 < x11 then (if 0 ≤ x12 then (if x12 < (x10.length : Int) then (if x12 < x1 then (if (((rd_T60 x10 x12).f0).length : Int) ≤ 10 then (if 0 ≤ (mn (((rd_T60 x10 x12).f1).length : Int) x2) then (if (mn (((rd_T60 x10 x12).f1).length : Int) x2) ≤ (((rd_T60 x10 x12).f1).length : Int) then (if x7.length < 2932031007402 then (dryrotplain_Few.l0 k x1 x2 (x7 ++ [(⟨(rd_T60 x10 x12).f0, (((rd_T60 x10 x12).f1).take ((mn (((rd_T60 x10 x12).f1).length : Int) x2) : Int).toNat)⟩ : S60)]) x10 x11 (wrap64 (x12 + 1))) else (none)) else (none)) else (none)) else (dryrotplain_Few.l0 k x1 x2 x7 x10 x11 (wrap64 (x12 + 1)))) else (dryrotplain_Few.l0 k x1 x2 x7 x10 x11 (wrap64 (x12 + 1)))) else (none)) else (none)) else (some x7)
def dryrotplain_Few.f (k : Nat) (l0 : List (S60)) (a1 : Int) (a2 : Int) : Option ((List (S60))) := dryrotplain_Few.l0 k a1 a2 ([] : List (S60)) l0 (l0.length : Int) 0
theorem dryrotplain_Few.mono_l : ∀ k, (∀ y0 y1 y2 y3 y4 y5, LeO (dryrotplain_Few.l0 k y0 y1 y2 y3 y4 y5) (dryrotplain_Few.l0 (k + 1) y0 y1 y2 y3 y4 y5))
 | 0 => fun _ _ _ _ _ _ r h => by simp [dryrotplain_Few.l0] at h
 | k + 1 => by
  have ih0 := dryrotplain_Few.mono_l k
  ·
   intro y0 y1 y2 y3 y4 y5
   unfold dryrotplain_Few.l0
   repeat' first
   | (with_reducible exact ih0 _ _ _ _ _ _)
   | (with_reducible exact LeO.refl _)
   | (with_reducible exact LeO.none _)
   | (with_reducible refine LeO.ite ?_ ?_)
   | (with_reducible refine LeO.bind ?_ (fun _ => ?_))
   | exact ih0 _ _ _ _ _ _
   | exact LeO.none _
   | refine LeO.ite ?_ ?_
   | refine LeO.bind ?_ (fun _ => ?_)
theorem dryrotplain_Few.mono : ∀ a0 a1 a2 k, LeO (dryrotplain_Few.f k a0 a1 a2) (dryrotplain_Few.f (k + 1) a0 a1 a2) := by
 intro a0 a1 a2 k
 have ih0 := dryrotplain_Few.mono_l k
 unfold dryrotplain_Few.f
 repeat' first
   | (with_reducible exact ih0 _ _ _ _ _ _)
   | (with_reducible exact LeO.refl _)
   | (with_reducible exact LeO.none _)
   | (with_reducible refine LeO.ite ?_ ?_)
   | (with_reducible refine LeO.bind ?_ (fun _ => ?_))
   | exact ih0 _ _ _ _ _ _
   | exact LeO.none _
   | refine LeO.ite ?_ ?_
   | refine LeO.bind ?_ (fun _ => ?_)
def dryrotplain_Few.T6 : Bool × List (List Nat × List Nat) := (true, [([], []), ([], []), ([1], [1]), ([], []), ([3], [3]), ([], []), ([5], [5]), ([6], [6]), ([], []), ([7, 8], [7, 8]), ([4, 9], [4, 9]), ([2, 10], [2, 10]), ([11], [11]), ([0, 12], [0, 12]), ([13, 13, 0, 1, 2, 3, 4, 5, 6, 7, 8, 9, 10, 11, 12, 13], [0, 13])])
def dryrotplain_Few.B6 : List Nat := [0, 0, 2, 0, 8, 0, 32, 96, 0, 480, 1016, 2046, 4094, 8191, 16383]
theorem dryrotplain_Few.tab6 : rtab .any (opsOf Tryd.f13 6) = dryrotplain_Few.T6 := by kernel_rfl
theorem dryrotplain_Few.bits6 : waitsOk dryrotplain_Few.T6.2 dryrotplain_Few.B6 = true := by kernel_rfl
set_option maxHeartbeats 8000000 in
set_option maxRecDepth 100000 in
theorem dryrotplain_Few.calls (k : Nat) (P0_ : Nat → Prop) (A0 : Option Addr) (c0 : Nat) (l0 : List (S60)) (a1 : Int) (a2 : Int) (r : List (S60)) (w : World) (hs0 : Kd.V k60 60 w w.heap.size (fun k_ => P0_ k_) (.slice A0 l0.length c0) l0) (h : dryrotplain_Few.f k l0 a1 a2 = some r) :
  Calls Tryd.prog 13 #[.slice A0 l0.length c0, .int .i64 a1, .int .i64 a2] w fun e w' => ∃ v0_ : Value, e = .returned (v0_) ∧ Kd.N k60 60 w' w.heap.size (fun k_ => (P0_ k_ ∨ w.heap.size ≤ k_)) v0_ r ∧ Below w.heap.size w w' := by
 have hu60 := Tryd.underlying60
 have HO0 := Aside0.mk (show Kd.V k60 60 w w.heap.size (fun k_ => (P0_ k_ ∨ w.heap.size ≤ k_)) (.slice A0 l0.length c0) l0 from Kd.V_mono hs0 (fun k_ hk => .inl hk))
 have HB := Aside0.mk (Below.refl w.heap.size w)
 have H : (dryrotplain_Few.l0 k a1 a2 ([] : List (S60)) l0 (l0.length : Int) 0) = some r := h
 clear h
 have H' := Aside0.mk H
 clear H
 go_enter Tryd.func13, Tryd.ntmps13
 go_wp2
 go_loopg [7, 12] k (fun kq v7 v12 w' => ∃ (x7_1 : List (S60)) (x12_1 : Int), v12 = .int .i64 x12_1 ∧ Aside0 (dryrotplain_Few.l0 kq a1 a2 x7_1 l0 (l0.length : Int) x12_1 = some r) ∧ Aside0 (kq ≤ k) ∧ Aside0 (Kd.N k60 60 w' w.heap.size (fun k_ => (P0_ k_ ∨ w.heap.size ≤ k_)) v7 x7_1) ∧ Aside0 (Kd.V k60 60 w' w.heap.size (fun k_ => (P0_ k_ ∨ w.heap.size ≤ k_) ∧ some k_ ≠ (v7 : Value).ownBlock) (.slice A0 l0.length c0) l0) ∧ Aside0 (Below w.heap.size w w'))
 case atStart => exact ⟨(([] : List (S60))), (0), (by first | rfl | (simp; done) | (simp [*]; done)), H', ⟨Nat.le_refl _⟩, ⟨by first | exact Kd.S_nil _ _ _ _ _ | exact Kd.N_nil _ _ _ _ _ | exact Kd.V_nil _ _ _ _ _ | exact Kd.Q_nil _ _ _ _ _ | exact Kd.R_nil _ _ _ _ _⟩, ⟨by (with_reducible repeat (first | apply Kd.V_alloc | apply Kd.V_drewN | apply Kd.V_drew)); exact Kd.V_mono HO0.out (fun _ hk => ⟨hk, (by simp [Value.ownBlock])⟩)⟩, ⟨by repeat (first | (with_reducible first | exact HB.out | apply q4 | apply q5 | apply q6) | exact HB.out)⟩⟩
 case round =>
  clear H'
  try clear c1
  try clear p2
  obtain ⟨x7_1, x12_1, rfl, HA, HK1, HO_7, HO_10, HB⟩ := hrel
  cases gk with
  | zero => exact absurd HA.out (by simp [dryrotplain_Few.l0])
  | succ k1 =>
   have H := HA.out
   clear HA
   simp only [dryrotplain_Few.l0] at H
   by_cases c4 : x12_1 < (l0.length : Int)
   ·
    rw [if_pos c4] at H
    have c4b0 : decide (x12_1 < (l0.length : Int)) = true := decide_eq_true c4
    clear c4
    by_cases c5 : 0 ≤ x12_1
    ·
     rw [if_pos c5] at H
     have c5b0 : decide (0 ≤ x12_1) = true := decide_eq_true c5
     clear c5
     by_cases c6 : x12_1 < (l0.length : Int)
     ·
      rw [if_pos c6] at H
      have c6b0 : decide (x12_1 < (l0.length : Int)) = true := decide_eq_true c6
      clear c6
      by_cases c7 : x12_1 < a1
      ·
       rw [if_pos c7] at H
       have c7b0 : decide (x12_1 < a1) = true := decide_eq_true c7
       clear c7
       by_cases c8 : (((rd_T60 l0 x12_1).f0).length : Int) ≤ 10
       ·
        rw [if_pos c8] at H
        have c8b0 : decide ((((rd_T60 l0 x12_1).f0).length : Int) ≤ 10) = true := decide_eq_true c8
        have c8b1 : decide (((rd_T60 l0 x12_1).f0).length ≤ 10) = true := decide_eq_true (by omega)
        clear c8
        obtain ⟨ji9, hji9⟩ : ∃ j_ : Int, (mn (((rd_T60 l0 x12_1).f1).length : Int) a2) = j_ := ⟨_, rfl⟩
        replace H : (if 0 ≤ (ji9) then (if (ji9) ≤ (((rd_T60 l0 x12_1).f1).length : Int) then (if x7_1.length < 2932031007402 then (dryrotplain_Few.l0 k1 a1 a2 (x7_1 ++ [(⟨(rd_T60 l0 x12_1).f0, (((rd_T60 l0 x12_1).f1).take ((ji9) : Int).toNat)⟩ : S60)]) l0 (l0.length : Int) (wrap64 (x12_1 + 1))) else (none)) else (none)) else (none)) = some r := by first | (rw [hji9] at H; exact H) | (simp only [hji9] at H ⊢; exact H)
        have hji9_ : (if a2 < (((rd_T60 l0 x12_1).f1).length : Int) then a2 else (((rd_T60 l0 x12_1).f1).length : Int)) = ji9 := hji9
        by_cases c10 : 0 ≤ (ji9)
        ·
         rw [if_pos c10] at H
         have c10b0 := eq_true c10
         have c10b1 : decide (0 ≤ (ji9)) = true := decide_eq_true c10
         clear c10
         by_cases c11 : (ji9) ≤ (((rd_T60 l0 x12_1).f1).length : Int)
         ·
          rw [if_pos c11] at H
          have c11b0 := eq_true c11
          have c11b1 : decide ((ji9) ≤ (((rd_T60 l0 x12_1).f1).length : Int)) = true := decide_eq_true c11
          clear c11
          obtain ⟨y184, hy184⟩ : ∃ y_ : List (S54), y_ = (((rd_T60 l0 x12_1).f1).take ((ji9) : Int).toNat) := ⟨_, rfl⟩
          replace H : (if x7_1.length < 2932031007402 then (dryrotplain_Few.l0 k1 a1 a2 (x7_1 ++ [(⟨(rd_T60 l0 x12_1).f0, y184⟩ : S60)]) l0 (l0.length : Int) (wrap64 (x12_1 + 1))) else (none)) = some r := by first | (rw [hy184]; with_reducible exact H) | (have H2_ := (Option.bind_some _ _).symm.trans H; rw [hy184]; with_reducible exact H2_) | (have H2_ := (Option.bind_some _ _).symm.trans H; with_reducible exact H2_) | with_reducible exact H | (rw [hy184]; exact H) | exact H
          have Ny184 := Aside0.mk hy184
          clear hy184
          by_cases c12 : x7_1.length < 2932031007402
          ·
           rw [if_pos c12] at H
           have LMc12 := Aside0.mk c12
           clear c12
           obtain ⟨y189, hy189⟩ : ∃ y_ : List (S60), y_ = (x7_1 ++ [(⟨(rd_T60 l0 x12_1).f0, y184⟩ : S60)]) := ⟨_, rfl⟩
           replace H : (dryrotplain_Few.l0 k1 a1 a2 y189 l0 (l0.length : Int) (wrap64 (x12_1 + 1))) = some r := by first | (rw [hy189]; with_reducible exact H) | (have H2_ := (Option.bind_some _ _).symm.trans H; rw [hy189]; with_reducible exact H2_) | (have H2_ := (Option.bind_some _ _).symm.trans H; with_reducible exact H2_) | with_reducible exact H | (rw [hy189]; exact H) | exact H
           have Ny189 := Aside0.mk hy189
           clear hy189
           have H' := Aside0.mk H
           clear H
           have p182 : 0 ≤ (x12_1 : Int) := of_decide_eq_true (by first | (with_reducible assumption) | assumption)
           have q182 : x12_1 < (l0.length : Int) := of_decide_eq_true (by first | (with_reducible assumption) | assumption)
           obtain ⟨ad182, A182_0, c182_0, A182_1, c182_1, e182, hx182_0, hx182_1, hl182_0, hi182_0, hl182_1, hi182_1⟩ := at_T60 (Kd.V_reads' HO_10.out).2.2 x12_1 p182 q182
           cases e182
           obtain ⟨ce182, hce182, hMe182, hcc182⟩ := Kd.V_get HO_10.out z60 x12_1 p182 (by first | exact q182 | exact of_decide_eq_true (by first | (with_reducible assumption) | assumption) | (have e_ := (Kd.V_reads' HO_10.out).1; omega))
           obtain ⟨ua182_0, uc182_0, ua182_1, uc182_1, rfl, ul182_0, ge182_0, ul182_1, ge182_1⟩ := k60_openF hMe182
           have hv182_0 := hcc182 0 _ rfl
           rw [Nat.add_zero] at hv182_0
           replace hv182_0 := Option.some.inj (hv182_0.symm.trans hx182_0)
           injection hv182_0 with hva_ hvn_ hvc_
           rw [hva_] at ge182_0
           rw [hvc_] at ul182_0
           have HL182_0 := Aside0.mk (show Kd.V k65 65 _ w.heap.size _ _ ((rd_T60 l0 x12_1).f0) from Kd.V_mk ul182_0 ge182_0)
           clear hva_ hvn_ hvc_ ge182_0 ul182_0
           have hv182_1 := hcc182 1 _ rfl
           rw [add_field _ _ 1 (by omega)] at hv182_1
           replace hv182_1 := Option.some.inj (hv182_1.symm.trans hx182_1)
           injection hv182_1 with hva_ hvn_ hvc_
           rw [hva_] at ge182_1
           rw [hvc_] at ul182_1
           have HL182_1 := Aside0.mk (show Kd.V k54 54 _ w.heap.size _ _ ((rd_T60 l0 x12_1).f1) from Kd.V_mk ul182_1 ge182_1)
           clear hva_ hvn_ hvc_ ge182_1 ul182_1
           clear hcc182 hce182
           have HR182_0 := Aside0.mk hi182_0
           have HC182_0 := Aside0.mk hl182_0
           clear hi182_0 hl182_0
           have HR182_1 := Aside0.mk hi182_1
           have HC182_1 := Aside0.mk hl182_1
           clear hi182_1 hl182_1
           replace p182 := eq_true p182
           replace q182 := eq_true q182
           try go_wp2_with (first | ((with_reducible refine gate_dst (N := 9) rfl ?_); (try (refine gate_guard (by rfl) ?_; dsimp only)); refine box_event ?hg (N := 9) ?hd (cs := #[.slice none 0 0, .slice none 0 0]) (t := 60) ?hr ?_; (case hd => rfl); (case hg => rfl); (case hr => first | (go_simp; done) | (go_simp; rfl)); intro gb183 hg w13 hbox hb; have n0_ := Aside0.mk (Kd.N_below (Kd.N_elderB (by (with_reducible repeat (first | apply Kd.N_alloc | apply Kd.N_drewN | apply Kd.N_drew)); exact HO_7.out) gb183 (Nat.le_of_eq hg.symm)) hb); have n1_ := Aside0.mk (Kd.V_below (Kd.V_elderB (by (with_reducible repeat (first | apply Kd.V_alloc | apply Kd.V_drewN | apply Kd.V_drew)); exact HO_10.out) gb183 (Nat.le_of_eq hg.symm)) hb); have n2_ := Aside0.mk (Kd.V_below (Kd.V_elderB (by (with_reducible repeat (first | apply Kd.V_alloc | apply Kd.V_drewN | apply Kd.V_drew)); exact HL182_0.out) gb183 (Nat.le_of_eq hg.symm)) hb); have n3_ := Aside0.mk (Kd.V_below (Kd.V_elderB (by (with_reducible repeat (first | apply Kd.V_alloc | apply Kd.V_drewN | apply Kd.V_drew)); exact HL182_1.out) gb183 (Nat.le_of_eq hg.symm)) hb); have n4_ := Aside0.mk (Kd.C_below (by repeat (first | (with_reducible exact HR182_0.out) | (with_reducible refine Kd.C_alloc ?_ _) | (with_reducible refine Kd.C_drewN ?_ _) | (with_reducible refine Kd.C_drew ?_) | exact HR182_0.out)) hb); have n5_ := Aside0.mk (Kd.C_below (by repeat (first | (with_reducible exact HR182_1.out) | (with_reducible refine Kd.C_alloc ?_ _) | (with_reducible refine Kd.C_drewN ?_ _) | (with_reducible refine Kd.C_drew ?_) | exact HR182_1.out)) hb); have n6_ := Aside0.mk (below_step (by repeat (first | (with_reducible first | exact HB.out | apply q4 | apply q5 | apply q6) | exact HB.out)) hb); have n7_ := Aside0.mk (hbox); have n8_ := Aside0.mk ((by rw [hg]; exact (below_size (by repeat (first | (with_reducible first | exact HB.out | apply q4 | apply q5 | apply q6) | exact HB.out))) : w.heap.size ≤ gb183)); have n9_ := Aside0.mk ((by rw [hg]; exact (below_size (by repeat (first | (with_reducible first | exact HB.out | apply q4 | apply q5 | apply q6) | exact HB.out))) : w.heap.size ≤ gb183)); clear HO_7; clear HO_10; clear HL182_0; clear HL182_1; clear HR182_0; clear HR182_1; clear HB; have HO_7 := n0_; have HO_10 := n1_; have HL182_0 := n2_; have HL182_1 := n3_; have HR182_0 := n4_; have HR182_1 := n5_; have HB := n6_; have BK183 := n7_; have GW183 := n8_; have GE183 := n9_; clear n0_ n1_ n2_ n3_ n4_ n5_ n6_ n7_ n8_ n9_; clear hb hbox hg; have hcz14_0 := cz0 BK183.out; have hcz14_1 := cz1 BK183.out; have hfz14_0 := blk_frozen BK183.out 0; have hfz14_1 := blk_frozen BK183.out 1))
           have n0_ : Aside0 (Kd.N k60 60 ((w13.setCell ⟨gb183, 0, none⟩ (.slice A182_0 ((rd_T60 l0 x12_1).f0).length c182_0)).setCell ⟨gb183, 1, none⟩ (.slice A182_1 ((rd_T60 l0 x12_1).f1).length c182_1)) w.heap.size (fun k_ => (P0_ k_ ∨ w.heap.size ≤ k_) ∧ k_ ≠ gb183) u7 x7_1) := ⟨by (with_reducible repeat (first | apply Kd.N_alloc | apply Kd.N_drewN | apply Kd.N_drew)); exact Kd.N_mono (Kd.N_far (p := ⟨gb183, 1, none⟩) (Kd.N_far (p := ⟨gb183, 0, none⟩) (Kd.N_mono HO_7.out (fun k_ hk => (⟨hk, hk.2⟩ : _ ∧ k_ ≠ gb183))) (fun _ hk => hk.2) (.slice A182_0 ((rd_T60 l0 x12_1).f0).length c182_0)) (fun _ hk => hk.2) (.slice A182_1 ((rd_T60 l0 x12_1).f1).length c182_1)) (fun _ hk => ⟨hk.1.1, hk.1.2⟩)⟩
           have n1_ : Aside0 (Kd.V k60 60 ((w13.setCell ⟨gb183, 0, none⟩ (.slice A182_0 ((rd_T60 l0 x12_1).f0).length c182_0)).setCell ⟨gb183, 1, none⟩ (.slice A182_1 ((rd_T60 l0 x12_1).f1).length c182_1)) w.heap.size (fun k_ => (P0_ k_ ∨ w.heap.size ≤ k_) ∧ some k_ ≠ (u7 : Value).ownBlock ∧ k_ ≠ gb183) (.slice (some ad182) l0.length c0) l0) := ⟨by (with_reducible repeat (first | apply Kd.V_alloc | apply Kd.V_drewN | apply Kd.V_drew)); exact Kd.V_mono (Kd.V_far (p := ⟨gb183, 1, none⟩) (Kd.V_far (p := ⟨gb183, 0, none⟩) (Kd.V_mono HO_10.out (fun k_ hk => (⟨hk, hk.2⟩ : _ ∧ k_ ≠ gb183))) (fun _ hk => hk.2) (.slice A182_0 ((rd_T60 l0 x12_1).f0).length c182_0)) (fun _ hk => hk.2) (.slice A182_1 ((rd_T60 l0 x12_1).f1).length c182_1)) (fun _ hk => ⟨hk.1.1.1, ⟨hk.1.1.2, hk.1.2⟩⟩)⟩
           have n2_ : Aside0 (Kd.V k65 65 ((w13.setCell ⟨gb183, 0, none⟩ (.slice A182_0 ((rd_T60 l0 x12_1).f0).length c182_0)).setCell ⟨gb183, 1, none⟩ (.slice A182_1 ((rd_T60 l0 x12_1).f1).length c182_1)) w.heap.size (fun k_ => (P0_ k_ ∨ w.heap.size ≤ k_) ∧ some k_ ≠ (u7 : Value).ownBlock ∧ k_ ≠ gb183) (.slice A182_0 ((rd_T60 l0 x12_1).f0).length c182_0) ((rd_T60 l0 x12_1).f0)) := ⟨by (with_reducible repeat (first | apply Kd.V_alloc | apply Kd.V_drewN | apply Kd.V_drew)); exact Kd.V_mono (Kd.V_far (p := ⟨gb183, 1, none⟩) (Kd.V_far (p := ⟨gb183, 0, none⟩) (Kd.V_mono HL182_0.out (fun k_ hk => (⟨hk, hk.2⟩ : _ ∧ k_ ≠ gb183))) (fun _ hk => hk.2) (.slice A182_0 ((rd_T60 l0 x12_1).f0).length c182_0)) (fun _ hk => hk.2) (.slice A182_1 ((rd_T60 l0 x12_1).f1).length c182_1)) (fun _ hk => ⟨hk.1.1.1, ⟨hk.1.1.2, hk.1.2⟩⟩)⟩
           have n3_ : Aside0 (Kd.V k54 54 ((w13.setCell ⟨gb183, 0, none⟩ (.slice A182_0 ((rd_T60 l0 x12_1).f0).length c182_0)).setCell ⟨gb183, 1, none⟩ (.slice A182_1 ((rd_T60 l0 x12_1).f1).length c182_1)) w.heap.size (fun k_ => (P0_ k_ ∨ w.heap.size ≤ k_) ∧ some k_ ≠ (u7 : Value).ownBlock ∧ k_ ≠ gb183) (.slice A182_1 ((rd_T60 l0 x12_1).f1).length c182_1) ((rd_T60 l0 x12_1).f1)) := ⟨by (with_reducible repeat (first | apply Kd.V_alloc | apply Kd.V_drewN | apply Kd.V_drew)); exact Kd.V_mono (Kd.V_far (p := ⟨gb183, 1, none⟩) (Kd.V_far (p := ⟨gb183, 0, none⟩) (Kd.V_mono HL182_1.out (fun k_ hk => (⟨hk, hk.2⟩ : _ ∧ k_ ≠ gb183))) (fun _ hk => hk.2) (.slice A182_0 ((rd_T60 l0 x12_1).f0).length c182_0)) (fun _ hk => hk.2) (.slice A182_1 ((rd_T60 l0 x12_1).f1).length c182_1)) (fun _ hk => ⟨hk.1.1.1, ⟨hk.1.1.2, hk.1.2⟩⟩)⟩
           have n4_ : Aside0 (((w13.setCell ⟨gb183, 0, none⟩ (.slice A182_0 ((rd_T60 l0 x12_1).f0).length c182_0)).setCell ⟨gb183, 1, none⟩ (.slice A182_1 ((rd_T60 l0 x12_1).f1).length c182_1)).heap[gb183]? = some (.cells #[.slice A182_0 ((rd_T60 l0 x12_1).f0).length c182_0, .slice A182_1 ((rd_T60 l0 x12_1).f1).length c182_1] 60 (0, 0))) := ⟨by (with_reducible repeat (first | refine q1 ?_ _ | refine q2 ?_ | refine q3 ?_ _)); refine blk_put (cs := #[.slice A182_0 ((rd_T60 l0 x12_1).f0).length c182_0, .slice none 0 0]) ?_ 1 _ rfl; (with_reducible repeat (first | refine q1 ?_ _ | refine q2 ?_ | refine q3 ?_ _)); refine blk_put (cs := #[.slice none 0 0, .slice none 0 0]) ?_ 0 _ rfl; (with_reducible repeat (first | refine q1 ?_ _ | refine q2 ?_ | refine q3 ?_ _)); exact BK183.out⟩
           have n5_ : Aside0 (Below w.heap.size w ((w13.setCell ⟨gb183, 0, none⟩ (.slice A182_0 ((rd_T60 l0 x12_1).f0).length c182_0)).setCell ⟨gb183, 1, none⟩ (.slice A182_1 ((rd_T60 l0 x12_1).f1).length c182_1))) := ⟨by repeat (first | (with_reducible first | exact HB.out | apply q4 | apply q5 | apply q6 | refine q7 ?_ GE183.out) | exact HB.out)⟩
           (try clear HO_7)
           (try clear HO_10)
           (try clear HL182_0)
           (try clear HL182_1)
           (try clear BK183)
           (try clear HB)
           generalize ((w13.setCell ⟨gb183, 0, none⟩ (.slice A182_0 ((rd_T60 l0 x12_1).f0).length c182_0)).setCell ⟨gb183, 1, none⟩ (.slice A182_1 ((rd_T60 l0 x12_1).f1).length c182_1)) = w15 at n0_ n1_ n2_ n3_ n4_ n5_ ⊢
           have HO_7 := n0_
           have HO_10 := n1_
           have HL182_0 := n2_
           have HL182_1 := n3_
           have BK183 := n4_
           have HB := n5_
           clear n0_ n1_ n2_ n3_ n4_ n5_
           have n0_ := Aside0.mk (Kd.N_drew HO_7.out)
           have n1_ := Aside0.mk (Kd.V_drew HO_10.out)
           have n2_ := Aside0.mk (Kd.V_drew HL182_0.out)
           have n3_ := Aside0.mk (Kd.V_drew HL182_1.out)
           have n4_ := Aside0.mk (q2 BK183.out)
           have n5_ := Aside0.mk (q6 HB.out)
           clear HO_7
           clear HO_10
           clear HL182_0
           clear HL182_1
           clear BK183
           clear HB
           have HO_7 := n0_
           have HO_10 := n1_
           have HL182_0 := n2_
           have HL182_1 := n3_
           have BK183 := n4_
           have HB := n5_
           clear n0_ n1_ n2_ n3_ n4_ n5_
           have q17 : ((ji9) : Int) ≤ ((((rd_T60 l0 x12_1).f1).length : Int) : Int) := of_decide_eq_true (by first | (with_reducible assumption) | assumption)
           obtain ⟨i017, hi017, _, hsz17, _⟩ := info_parts info54
           have hroom17 : ((rd_T60 l0 x12_1).f1).length ≤ c182_1 := HC182_1.out
           have hC17 : Kd.F k54 _ _ A182_1 ((rd_T60 l0 x12_1).f1).length ((rd_T60 l0 x12_1).f1) := (Kd.V_at (base := w.heap.size) HL182_1.out).2.2
           have hcut17 := cut_to (P := Tryd.prog) 30 54 .i64 Tryd.underlying30 hi017 A182_1 ((rd_T60 l0 x12_1).f1).length c182_1 (ji9) (of_decide_eq_true (by first | (with_reducible assumption) | assumption)) q17 hroom17
           have hr17 := Kd.F_take (m := ((ji9) : Int).toNat) hC17 (by omega)
           have hy17 : y184.length = ((ji9) : Int).toNat := (by rw [Ny184.out, List.length_take]; omega)
           rw [← Ny184.out] at hr17
           rw [← hy17] at hcut17
           have HO188 := Aside0.mk (show Kd.V k54 54 _ w.heap.size _ (.slice A182_1 y184.length c182_1) y184 from Kd.V_mk (by omega) hr17)
           have HC188 := Aside0.mk (show y184.length ≤ c182_1 from by omega)
           clear hr17 hC17 hroom17 hi017 hsz17
           have KY17 := Aside0.mk hy17
           clear hy17
           replace q17 := eq_true q17
           refine start_ (n := 15) (S := fun w' => w'.cell? ⟨gb183, 0, none⟩ = some (.slice A182_0 ((rd_T60 l0 x12_1).f0).length c182_0) ∧ w'.cell? ⟨gb183, 1, none⟩ = some (.slice A182_1 ((rd_T60 l0 x12_1).f1).length c182_1)) (ds := []) #[false, false, false, false, false, false, false, false, false, false, false, false, false, false, false] (by kernel_rfl) rfl rfl ⟨(blk_cell BK183.out 0).trans rfl, (blk_cell BK183.out 1).trans rfl⟩ (fun hHeld => ?_); refine with_tabW dryrotplain_Few.tab6 dryrotplain_Few.bits6 (fun HT_ HW_ => ?_)
           generalize w15.drew = w16 at HO_7 HO_10 HL182_0 HL182_1 BK183 HB HO188 hHeld ⊢
           refine pure_ (i := 0) (N := some 26) (v := ?_) (a' := ?_) #[true, false, false, false, false, false, false, false, false, false, false, false, false, false, false] rfl rfl (any_of HT_.out (by kernel_rfl)) (fun _ _ _ h => h) (Or.inl ⟨by rfl, ?_⟩) ?_ ?_
           rotate_left
           ·
            intro w'
            go_simp
            with_reducible rfl
           rotate_left
           ·
            simp only [Act.put, qb, qc, qd, i64_w, i32_w]
            rfl
           refine pure_ (i := 1) (N := some 27) (v := ?_) (a' := ?_) #[true, true, false, false, false, false, false, false, false, false, false, false, false, false, false] rfl rfl (any_of HT_.out (by kernel_rfl)) (fun _ _ _ h => h) (Or.inl ⟨by rfl, ?_⟩) ?_ ?_
           rotate_left
           ·
            intro w'
            go_simp
            with_reducible rfl
           rotate_left
           ·
            simp only [Act.put, qb, qc, qd, i64_w, i32_w]
            rfl
           refine pure_ (i := 3) (N := some 29) (v := ?_) (a' := ?_) #[true, true, false, true, false, false, false, false, false, false, false, false, false, false, false] rfl rfl (any_of HT_.out (by kernel_rfl)) (fun _ _ _ h => h) (Or.inl ⟨by rfl, ?_⟩) ?_ ?_
           rotate_left
           ·
            intro w'
            go_simp
            with_reducible rfl
           rotate_left
           ·
            simp only [Act.put, qb, qc, qd, i64_w, i32_w]
            rfl
           refine pure_ (i := 5) (N := some 31) (v := ?_) (a' := ?_) #[true, true, false, true, false, true, false, false, false, false, false, false, false, false, false] rfl rfl (any_of HT_.out (by kernel_rfl)) (fun _ _ _ h => h) (Or.inl ⟨by rfl, ?_⟩) ?_ ?_
           rotate_left
           ·
            intro w'
            go_simp
            with_reducible rfl
           rotate_left
           ·
            simp only [Act.put, qb, qc, qd, i64_w, i32_w]
            rfl
           refine pure_ (i := 8) (N := some 34) (v := ?_) (a' := ?_) #[true, true, false, true, false, true, false, false, true, false, false, false, false, false, false] rfl rfl (any_of HT_.out (by kernel_rfl)) (fun _ _ _ h => h) (Or.inl ⟨by rfl, ?_⟩) ?_ ?_
           rotate_left
           ·
            intro w'
            go_simp
            with_reducible rfl
           rotate_left
           ·
            simp only [Act.put, qb, qc, qd, i64_w, i32_w]
            rfl
           refine take_ (i := 2) (N := some 28) (v := ?_) (a' := ?_) #[true, true, true, true, false, true, false, false, true, false, false, false, false, false, false] rfl rfl (take_ofW HT_.out HW_.out (by kernel_rfl)) (fun _ _ _ h => h) (Or.inl ⟨by rfl, ?_⟩) hHeld ?_ ?_
           rotate_left
           ·
            rintro w' ⟨s0, s1⟩
            go_simp
            with_reducible rfl
           rotate_left
           ·
            simp only [Act.put, qb, qc, qd, i64_w, i32_w]
            rfl
           refine take_ (i := 4) (N := some 30) (v := ?_) (a' := ?_) #[true, true, true, true, true, true, false, false, true, false, false, false, false, false, false] rfl rfl (take_ofW HT_.out HW_.out (by kernel_rfl)) (fun _ _ _ h => h) (Or.inl ⟨by rfl, ?_⟩) hHeld ?_ ?_
           rotate_left
           ·
            rintro w' ⟨s0, s1⟩
            go_simp
            with_reducible rfl
           rotate_left
           ·
            simp only [Act.put, qb, qc, qd, i64_w, i32_w]
            rfl
           refine take_ (i := 6) (N := some 32) (v := ?_) (a' := ?_) #[true, true, true, true, true, true, true, false, true, false, false, false, false, false, false] rfl rfl (take_ofW HT_.out HW_.out (by kernel_rfl)) (fun _ _ _ h => h) (Or.inl ⟨by rfl, ?_⟩) hHeld ?_ ?_
           rotate_left
           ·
            rintro w' ⟨s0, s1⟩
            go_simp
            with_reducible rfl
           rotate_left
           ·
            simp only [Act.put, qb, qc, qd, i64_w, i32_w]
            rfl
           refine pure_ (i := 7) (N := some 33) (v := ?_) (a' := ?_) #[true, true, true, true, true, true, true, true, true, false, false, false, false, false, false] rfl rfl (any_of HT_.out (by kernel_rfl)) (fun _ _ _ h => h) (Or.inl ⟨by rfl, ?_⟩) ?_ ?_
           rotate_left
           ·
            intro w'
            go_simp
            with_reducible rfl
           rotate_left
           ·
            simp only [Act.put, qb, qc, qd, i64_w, i32_w]
            rfl
           refine pure_ (i := 9) (N := some 35) (v := ?_) (a' := ?_) #[true, true, true, true, true, true, true, true, true, true, false, false, false, false, false] rfl rfl (any_of HT_.out (by kernel_rfl)) (fun _ _ _ h => h) (Or.inl ⟨by rfl, ?_⟩) ?_ ?_
           rotate_left
           ·
            intro w'
            go_simp
            with_reducible rfl
           rotate_left
           ·
            simp only [Act.put, qb, qc, qd, i64_w, i32_w]
            rfl
           refine pure_ (i := 10) (N := some 36) (v := ?_) (a' := ?_) #[true, true, true, true, true, true, true, true, true, true, true, false, false, false, false] rfl rfl (any_of HT_.out (by kernel_rfl)) (fun _ _ _ h => h) (Or.inl ⟨by rfl, ?_⟩) ?_ ?_
           rotate_left
           ·
            intro w'
            go_simp
            with_reducible rfl
           rotate_left
           ·
            simp only [Act.put, qb, qc, qd, i64_w, i32_w]
            rfl
           refine pure_ (i := 11) (N := some 37) (v := ?_) (a' := ?_) #[true, true, true, true, true, true, true, true, true, true, true, true, false, false, false] rfl rfl (any_of HT_.out (by kernel_rfl)) (fun _ _ _ h => h) (Or.inl ⟨by rfl, ?_⟩) ?_ ?_
           rotate_left
           ·
            intro w'
            go_simp
            with_reducible rfl
           rotate_left
           ·
            simp only [Act.put, qb, qc, qd, i64_w, i32_w]
            rfl
           refine one_ (i := 12) (N := some 38) #[true, true, true, true, true, true, true, true, true, true, true, true, true, false, false] rfl rfl (one_of HT_.out (by kernel_rfl)) (by decide) (fun K hK => ?_)
           refine value_ (w1 := ?_) (v := ?_) (by rfl) rfl ?_ ?_
           rotate_left 2
           ·
            go_simp
            constructor
            ·
             rfl
            ·
             rfl
           refine hK.out _ _ ⟨(blk_cell (q3 BK183.out _) 0).trans rfl, (blk_cell (q3 BK183.out _) 1).trans rfl⟩ (fun hHeld => ?_)
           clear hK K
           refine norm_ (a' := ?_) ?_ ?_
           rotate_left
           ·
            show Act.put _ (some 38) _ = _
            simp only [Act.put, qb, qc, qd, i64_w, i32_w]
            rfl
           refine one_ (i := 13) (N := some 39) #[true, true, true, true, true, true, true, true, true, true, true, true, true, true, false] rfl rfl (one_of HT_.out (by kernel_rfl)) (by decide) (fun K hK => ?_)
           refine Kd.N_append_step k60 (w0 := w) w.heap.size (by rfl) (.tmp 26) (.tmp 38) 38 60 (.agg #[(.slice none 0 0), (.slice none 0 0)]) 48 rfl Tryd.underlying38 info60 rfl (by decide) (by omega) u7 x7_1 (⟨(rd_T60 l0 x12_1).f0, y184⟩ : S60) [.slice A182_0 ((rd_T60 l0 x12_1).f0).length c182_0, .slice A182_1 y184.length c182_1] (fun k_ => (P0_ k_ ∨ w.heap.size ≤ k_) ∧ k_ ≠ gb183) (fun k_ => ((fun k_ => (P0_ k_ ∨ w.heap.size ≤ k_) ∧ k_ ≠ gb183)) k_ ∧ some k_ ≠ (u7 : Value).ownBlock) rfl rfl ?aP (fun _ hk => hk) ?aF ?aO ?aB ?aS ?aL ?_
           (case aP => exact (k60_mkF _ _ (⟨(rd_T60 l0 x12_1).f0, y184⟩ : S60) (Kd.V_reads' (Kd.V_mono (ok' := (fun k_ => ((fun k_ => (P0_ k_ ∨ w.heap.size ≤ k_) ∧ k_ ≠ gb183)) k_ ∧ some k_ ≠ (u7 : Value).ownBlock)) (HL182_0.out) (fun k_ hk => ⟨⟨hk.1, hk.2.2⟩, hk.2.1⟩))).2.1 (Kd.V_F (Kd.V_mono (ok' := (fun k_ => ((fun k_ => (P0_ k_ ∨ w.heap.size ≤ k_) ∧ k_ ≠ gb183)) k_ ∧ some k_ ≠ (u7 : Value).ownBlock)) (HL182_0.out) (fun k_ hk => ⟨⟨hk.1, hk.2.2⟩, hk.2.1⟩))) (Kd.V_reads' (Kd.V_mono (ok' := (fun k_ => ((fun k_ => (P0_ k_ ∨ w.heap.size ≤ k_) ∧ k_ ≠ gb183)) k_ ∧ some k_ ≠ (u7 : Value).ownBlock)) (HO188.out) (fun k_ hk => ⟨⟨hk.1, hk.2.2⟩, hk.2.1⟩))).2.1 (Kd.V_F (Kd.V_mono (ok' := (fun k_ => ((fun k_ => (P0_ k_ ∨ w.heap.size ≤ k_) ∧ k_ ≠ gb183)) k_ ∧ some k_ ≠ (u7 : Value).ownBlock)) (HO188.out) (fun k_ hk => ⟨⟨hk.1, hk.2.2⟩, hk.2.1⟩)))))
           (case aB => exact (by repeat (first | (with_reducible first | exact HB.out | apply q4 | apply q5 | apply q6 | refine q7 ?_ GE183.out) | exact HB.out)))
           (case aF => exact (fun k_ hk => ⟨(.inr (Nat.le_trans (below_size (by repeat (first | (with_reducible first | exact HB.out | apply q4 | apply q5 | apply q6 | refine q7 ?_ GE183.out) | exact HB.out))) hk)), Kd.freshB (g := gb183) (o := .cells #[.slice A182_0 ((rd_T60 l0 x12_1).f0).length c182_0, .slice A182_1 ((rd_T60 l0 x12_1).f1).length c182_1] 60 (0, 0)) (by (with_reducible repeat (first | refine q1 ?_ _ | refine q2 ?_ | refine q3 ?_ _)); exact BK183.out) k_ hk⟩))
           (case aO => exact (by (with_reducible repeat (first | apply Kd.N_alloc | apply Kd.N_drewN | apply Kd.N_drew)); exact HO_7.out))
           (case aS => exact (below_size (by repeat (first | (with_reducible first | exact HB.out | apply q4 | apply q5 | apply q6 | refine q7 ?_ GE183.out) | exact HB.out))))
           (case aL => have := LMc12.out; omega)
           intro v190 w18 ho hb hg hat
           rw [← Ny189.out] at ho
           have n0_ := Aside0.mk (Kd.V_afterv (ok := (fun k_ => (P0_ k_ ∨ w.heap.size ≤ k_) ∧ k_ ≠ gb183)) (by (with_reducible repeat (first | apply Kd.V_alloc | apply Kd.V_drewN | apply Kd.V_drew)); exact Kd.V_mono HO_10.out (fun _ hk => ⟨⟨hk.1, hk.2.2⟩, hk.2.1⟩)) hg hat)
           have n1_ := Aside0.mk (Kd.V_afterv (ok := (fun k_ => (P0_ k_ ∨ w.heap.size ≤ k_) ∧ k_ ≠ gb183)) (by (with_reducible repeat (first | apply Kd.V_alloc | apply Kd.V_drewN | apply Kd.V_drew)); exact Kd.V_mono HL182_0.out (fun _ hk => ⟨⟨hk.1, hk.2.2⟩, hk.2.1⟩)) hg hat)
           have n2_ := Aside0.mk (Kd.V_afterv (ok := (fun k_ => (P0_ k_ ∨ w.heap.size ≤ k_) ∧ k_ ≠ gb183)) (by (with_reducible repeat (first | apply Kd.V_alloc | apply Kd.V_drewN | apply Kd.V_drew)); exact Kd.V_mono HL182_1.out (fun _ hk => ⟨⟨hk.1, hk.2.2⟩, hk.2.1⟩)) hg hat)
           have n3_ := Aside0.mk (blk_grown (g := gb183) (o := .cells #[.slice A182_0 ((rd_T60 l0 x12_1).f0).length c182_0, .slice A182_1 ((rd_T60 l0 x12_1).f1).length c182_1] 60 (0, 0)) (by (with_reducible repeat (first | refine q1 ?_ _ | refine q2 ?_ | refine q3 ?_ _)); exact BK183.out) hg (Kd.N_away HO_7.out (fun _ hk => hk.2)))
           have n4_ := Aside0.mk (Kd.V_afterv (ok := (fun k_ => (P0_ k_ ∨ w.heap.size ≤ k_) ∧ k_ ≠ gb183)) (by (with_reducible repeat (first | apply Kd.V_alloc | apply Kd.V_drewN | apply Kd.V_drew)); exact Kd.V_mono HO188.out (fun _ hk => ⟨⟨hk.1, hk.2.2⟩, hk.2.1⟩)) hg hat)
           have n5_ := Aside0.mk (hb)
           have n6_ := Aside0.mk (ho)
           clear HO_10
           clear HL182_0
           clear HL182_1
           clear BK183
           clear HO188
           clear HB
           clear HO_7
           have HO_10 := n0_
           have HL182_0 := n1_
           have HL182_1 := n2_
           have BK183 := n3_
           have HO188 := n4_
           have HB := n5_
           have HO191 := n6_
           clear n0_ n1_ n2_ n3_ n4_ n5_ n6_
           clear ho hb hg hat
           refine hK.out _ _ ⟨(blk_cell BK183.out 0).trans rfl, (blk_cell BK183.out 1).trans rfl⟩ (fun hHeld => ?_)
           clear hK K
           refine norm_ (a' := ?_) ?_ ?_
           rotate_left
           ·
            show Act.put _ (some 39) _ = _
            simp only [Act.put, qb, qc, qd, i64_w, i32_w]
            rfl
           refine pure_ (i := 14) (N := some 7) (v := ?_) (a' := ?_) #[true, true, true, true, true, true, true, true, true, true, true, true, true, true, true] rfl rfl (any_of HT_.out (by kernel_rfl)) (fun _ _ _ h => h) (Or.inl ⟨by rfl, ?_⟩) ?_ ?_
           rotate_left
           ·
            intro w'
            go_simp
            with_reducible rfl
           rotate_left
           ·
            simp only [Act.put, qb, qc, qd, i64_w, i32_w]
            rfl
           refine done_ (done_of HT_.out (by kernel_rfl)) ?_
           try go_wp2
           go_roundg k1
           case measure => have := HK1.out; omega
           case rel => exact ⟨(y189), (wrap64 (x12_1 + 1)), (by first | rfl | (simp; done) | (simp [*]; done)), H', ⟨by have := HK1.out; omega⟩, ⟨by (with_reducible repeat (first | apply Kd.N_alloc | apply Kd.N_drewN | apply Kd.N_drew)); exact Kd.N_mono HO191.out (fun _ hk => hk.1)⟩, ⟨by (with_reducible repeat (first | apply Kd.V_alloc | apply Kd.V_drewN | apply Kd.V_drew)); exact Kd.V_mono HO_10.out (fun _ hk => ⟨hk.1.1, hk.2⟩)⟩, ⟨by repeat (first | (with_reducible first | exact HB.out | apply q4 | apply q5 | apply q6 | refine q7 ?_ GE183.out) | exact HB.out)⟩⟩
          ·
           rw [if_neg c12] at H
           exact absurd H (by simp)
         ·
          rw [if_neg c11] at H
          exact absurd H (by simp)
        ·
         rw [if_neg c10] at H
         exact absurd H (by simp)
       ·
        rw [if_neg c8] at H
        have c8b0 : decide ((((rd_T60 l0 x12_1).f0).length : Int) ≤ 10) = false := decide_eq_false c8
        have c8b1 : decide (((rd_T60 l0 x12_1).f0).length ≤ 10) = false := decide_eq_false (by omega)
        clear c8
        have H' := Aside0.mk H
        clear H
        have p182 : 0 ≤ (x12_1 : Int) := of_decide_eq_true (by first | (with_reducible assumption) | assumption)
        have q182 : x12_1 < (l0.length : Int) := of_decide_eq_true (by first | (with_reducible assumption) | assumption)
        obtain ⟨ad182, A182_0, c182_0, A182_1, c182_1, e182, hx182_0, hx182_1, hl182_0, hi182_0, hl182_1, hi182_1⟩ := at_T60 (Kd.V_reads' HO_10.out).2.2 x12_1 p182 q182
        cases e182
        obtain ⟨ce182, hce182, hMe182, hcc182⟩ := Kd.V_get HO_10.out z60 x12_1 p182 (by first | exact q182 | exact of_decide_eq_true (by first | (with_reducible assumption) | assumption) | (have e_ := (Kd.V_reads' HO_10.out).1; omega))
        obtain ⟨ua182_0, uc182_0, ua182_1, uc182_1, rfl, ul182_0, ge182_0, ul182_1, ge182_1⟩ := k60_openF hMe182
        have hv182_0 := hcc182 0 _ rfl
        rw [Nat.add_zero] at hv182_0
        replace hv182_0 := Option.some.inj (hv182_0.symm.trans hx182_0)
        injection hv182_0 with hva_ hvn_ hvc_
        rw [hva_] at ge182_0
        rw [hvc_] at ul182_0
        have HL182_0 := Aside0.mk (show Kd.V k65 65 _ w.heap.size _ _ ((rd_T60 l0 x12_1).f0) from Kd.V_mk ul182_0 ge182_0)
        clear hva_ hvn_ hvc_ ge182_0 ul182_0
        have hv182_1 := hcc182 1 _ rfl
        rw [add_field _ _ 1 (by omega)] at hv182_1
        replace hv182_1 := Option.some.inj (hv182_1.symm.trans hx182_1)
        injection hv182_1 with hva_ hvn_ hvc_
        rw [hva_] at ge182_1
        rw [hvc_] at ul182_1
        have HL182_1 := Aside0.mk (show Kd.V k54 54 _ w.heap.size _ _ ((rd_T60 l0 x12_1).f1) from Kd.V_mk ul182_1 ge182_1)
        clear hva_ hvn_ hvc_ ge182_1 ul182_1
        clear hcc182 hce182
        have HR182_0 := Aside0.mk hi182_0
        have HC182_0 := Aside0.mk hl182_0
        clear hi182_0 hl182_0
        have HR182_1 := Aside0.mk hi182_1
        have HC182_1 := Aside0.mk hl182_1
        clear hi182_1 hl182_1
        replace p182 := eq_true p182
        replace q182 := eq_true q182
        go_wp2_with (first | ((with_reducible refine gate_dst (N := 9) rfl ?_); (try (refine gate_guard (by rfl) ?_; dsimp only)); refine box_event ?hg (N := 9) ?hd (cs := #[.slice none 0 0, .slice none 0 0]) (t := 60) ?hr ?_; (case hd => rfl); (case hg => rfl); (case hr => first | (go_simp; done) | (go_simp; rfl)); intro gb183 hg w19 hbox hb; have n0_ := Aside0.mk (Kd.N_below (Kd.N_elderB (by (with_reducible repeat (first | apply Kd.N_alloc | apply Kd.N_drewN | apply Kd.N_drew)); exact HO_7.out) gb183 (Nat.le_of_eq hg.symm)) hb); have n1_ := Aside0.mk (Kd.V_below (Kd.V_elderB (by (with_reducible repeat (first | apply Kd.V_alloc | apply Kd.V_drewN | apply Kd.V_drew)); exact HO_10.out) gb183 (Nat.le_of_eq hg.symm)) hb); have n2_ := Aside0.mk (Kd.V_below (Kd.V_elderB (by (with_reducible repeat (first | apply Kd.V_alloc | apply Kd.V_drewN | apply Kd.V_drew)); exact HL182_0.out) gb183 (Nat.le_of_eq hg.symm)) hb); have n3_ := Aside0.mk (Kd.V_below (Kd.V_elderB (by (with_reducible repeat (first | apply Kd.V_alloc | apply Kd.V_drewN | apply Kd.V_drew)); exact HL182_1.out) gb183 (Nat.le_of_eq hg.symm)) hb); have n4_ := Aside0.mk (Kd.C_below (by repeat (first | (with_reducible exact HR182_0.out) | (with_reducible refine Kd.C_alloc ?_ _) | (with_reducible refine Kd.C_drewN ?_ _) | (with_reducible refine Kd.C_drew ?_) | exact HR182_0.out)) hb); have n5_ := Aside0.mk (Kd.C_below (by repeat (first | (with_reducible exact HR182_1.out) | (with_reducible refine Kd.C_alloc ?_ _) | (with_reducible refine Kd.C_drewN ?_ _) | (with_reducible refine Kd.C_drew ?_) | exact HR182_1.out)) hb); have n6_ := Aside0.mk (below_step (by repeat (first | (with_reducible first | exact HB.out | apply q4 | apply q5 | apply q6) | exact HB.out)) hb); have n7_ := Aside0.mk (hbox); have n8_ := Aside0.mk ((by rw [hg]; exact (below_size (by repeat (first | (with_reducible first | exact HB.out | apply q4 | apply q5 | apply q6) | exact HB.out))) : w.heap.size ≤ gb183)); have n9_ := Aside0.mk ((by rw [hg]; exact (below_size (by repeat (first | (with_reducible first | exact HB.out | apply q4 | apply q5 | apply q6) | exact HB.out))) : w.heap.size ≤ gb183)); clear HO_7; clear HO_10; clear HL182_0; clear HL182_1; clear HR182_0; clear HR182_1; clear HB; have HO_7 := n0_; have HO_10 := n1_; have HL182_0 := n2_; have HL182_1 := n3_; have HR182_0 := n4_; have HR182_1 := n5_; have HB := n6_; have BK183 := n7_; have GW183 := n8_; have GE183 := n9_; clear n0_ n1_ n2_ n3_ n4_ n5_ n6_ n7_ n8_ n9_; clear hb hbox hg; have hcz20_0 := cz0 BK183.out; have hcz20_1 := cz1 BK183.out; have hfz20_0 := blk_frozen BK183.out 0; have hfz20_1 := blk_frozen BK183.out 1))
        go_roundg k1
        case measure => have := HK1.out; omega
        case rel => exact ⟨(x7_1), (wrap64 (x12_1 + 1)), (by first | rfl | (simp; done) | (simp [*]; done)), H', ⟨by have := HK1.out; omega⟩, ⟨by (with_reducible repeat (first | apply Kd.N_alloc | apply Kd.N_drewN | apply Kd.N_drew)); exact Kd.N_mono (Kd.N_far (p := ⟨gb183, 1, none⟩) (Kd.N_far (p := ⟨gb183, 0, none⟩) (Kd.N_mono HO_7.out (fun k_ hk => (⟨hk, hk.2⟩ : _ ∧ k_ ≠ gb183))) (fun _ hk => hk.2) (.slice A182_0 ((rd_T60 l0 x12_1).f0).length c182_0)) (fun _ hk => hk.2) (.slice A182_1 ((rd_T60 l0 x12_1).f1).length c182_1)) (fun _ hk => hk.1.1)⟩, ⟨by (with_reducible repeat (first | apply Kd.V_alloc | apply Kd.V_drewN | apply Kd.V_drew)); exact Kd.V_mono (Kd.V_far (p := ⟨gb183, 1, none⟩) (Kd.V_far (p := ⟨gb183, 0, none⟩) (Kd.V_mono HO_10.out (fun k_ hk => (⟨hk, hk.2⟩ : _ ∧ k_ ≠ gb183))) (fun _ hk => hk.2) (.slice A182_0 ((rd_T60 l0 x12_1).f0).length c182_0)) (fun _ hk => hk.2) (.slice A182_1 ((rd_T60 l0 x12_1).f1).length c182_1)) (fun _ hk => ⟨hk.1.1.1, hk.1.1.2⟩)⟩, ⟨by repeat (first | (with_reducible first | exact HB.out | apply q4 | apply q5 | apply q6 | refine q7 ?_ GE183.out) | exact HB.out)⟩⟩
      ·
       rw [if_neg c7] at H
       have c7b0 : decide (x12_1 < a1) = false := decide_eq_false c7
       clear c7
       have H' := Aside0.mk H
       clear H
       have p182 : 0 ≤ (x12_1 : Int) := of_decide_eq_true (by first | (with_reducible assumption) | assumption)
       have q182 : x12_1 < (l0.length : Int) := of_decide_eq_true (by first | (with_reducible assumption) | assumption)
       obtain ⟨ad182, A182_0, c182_0, A182_1, c182_1, e182, hx182_0, hx182_1, hl182_0, hi182_0, hl182_1, hi182_1⟩ := at_T60 (Kd.V_reads' HO_10.out).2.2 x12_1 p182 q182
       cases e182
       obtain ⟨ce182, hce182, hMe182, hcc182⟩ := Kd.V_get HO_10.out z60 x12_1 p182 (by first | exact q182 | exact of_decide_eq_true (by first | (with_reducible assumption) | assumption) | (have e_ := (Kd.V_reads' HO_10.out).1; omega))
       obtain ⟨ua182_0, uc182_0, ua182_1, uc182_1, rfl, ul182_0, ge182_0, ul182_1, ge182_1⟩ := k60_openF hMe182
       have hv182_0 := hcc182 0 _ rfl
       rw [Nat.add_zero] at hv182_0
       replace hv182_0 := Option.some.inj (hv182_0.symm.trans hx182_0)
       injection hv182_0 with hva_ hvn_ hvc_
       rw [hva_] at ge182_0
       rw [hvc_] at ul182_0
       have HL182_0 := Aside0.mk (show Kd.V k65 65 _ w.heap.size _ _ ((rd_T60 l0 x12_1).f0) from Kd.V_mk ul182_0 ge182_0)
       clear hva_ hvn_ hvc_ ge182_0 ul182_0
       have hv182_1 := hcc182 1 _ rfl
       rw [add_field _ _ 1 (by omega)] at hv182_1
       replace hv182_1 := Option.some.inj (hv182_1.symm.trans hx182_1)
       injection hv182_1 with hva_ hvn_ hvc_
       rw [hva_] at ge182_1
       rw [hvc_] at ul182_1
       have HL182_1 := Aside0.mk (show Kd.V k54 54 _ w.heap.size _ _ ((rd_T60 l0 x12_1).f1) from Kd.V_mk ul182_1 ge182_1)
       clear hva_ hvn_ hvc_ ge182_1 ul182_1
       clear hcc182 hce182
       have HR182_0 := Aside0.mk hi182_0
       have HC182_0 := Aside0.mk hl182_0
       clear hi182_0 hl182_0
       have HR182_1 := Aside0.mk hi182_1
       have HC182_1 := Aside0.mk hl182_1
       clear hi182_1 hl182_1
       replace p182 := eq_true p182
       replace q182 := eq_true q182
       go_wp2_with (first | ((with_reducible refine gate_dst (N := 9) rfl ?_); (try (refine gate_guard (by rfl) ?_; dsimp only)); refine box_event ?hg (N := 9) ?hd (cs := #[.slice none 0 0, .slice none 0 0]) (t := 60) ?hr ?_; (case hd => rfl); (case hg => rfl); (case hr => first | (go_simp; done) | (go_simp; rfl)); intro gb183 hg w21 hbox hb; have n0_ := Aside0.mk (Kd.N_below (Kd.N_elderB (by (with_reducible repeat (first | apply Kd.N_alloc | apply Kd.N_drewN | apply Kd.N_drew)); exact HO_7.out) gb183 (Nat.le_of_eq hg.symm)) hb); have n1_ := Aside0.mk (Kd.V_below (Kd.V_elderB (by (with_reducible repeat (first | apply Kd.V_alloc | apply Kd.V_drewN | apply Kd.V_drew)); exact HO_10.out) gb183 (Nat.le_of_eq hg.symm)) hb); have n2_ := Aside0.mk (Kd.V_below (Kd.V_elderB (by (with_reducible repeat (first | apply Kd.V_alloc | apply Kd.V_drewN | apply Kd.V_drew)); exact HL182_0.out) gb183 (Nat.le_of_eq hg.symm)) hb); have n3_ := Aside0.mk (Kd.V_below (Kd.V_elderB (by (with_reducible repeat (first | apply Kd.V_alloc | apply Kd.V_drewN | apply Kd.V_drew)); exact HL182_1.out) gb183 (Nat.le_of_eq hg.symm)) hb); have n4_ := Aside0.mk (Kd.C_below (by repeat (first | (with_reducible exact HR182_0.out) | (with_reducible refine Kd.C_alloc ?_ _) | (with_reducible refine Kd.C_drewN ?_ _) | (with_reducible refine Kd.C_drew ?_) | exact HR182_0.out)) hb); have n5_ := Aside0.mk (Kd.C_below (by repeat (first | (with_reducible exact HR182_1.out) | (with_reducible refine Kd.C_alloc ?_ _) | (with_reducible refine Kd.C_drewN ?_ _) | (with_reducible refine Kd.C_drew ?_) | exact HR182_1.out)) hb); have n6_ := Aside0.mk (below_step (by repeat (first | (with_reducible first | exact HB.out | apply q4 | apply q5 | apply q6) | exact HB.out)) hb); have n7_ := Aside0.mk (hbox); have n8_ := Aside0.mk ((by rw [hg]; exact (below_size (by repeat (first | (with_reducible first | exact HB.out | apply q4 | apply q5 | apply q6) | exact HB.out))) : w.heap.size ≤ gb183)); have n9_ := Aside0.mk ((by rw [hg]; exact (below_size (by repeat (first | (with_reducible first | exact HB.out | apply q4 | apply q5 | apply q6) | exact HB.out))) : w.heap.size ≤ gb183)); clear HO_7; clear HO_10; clear HL182_0; clear HL182_1; clear HR182_0; clear HR182_1; clear HB; have HO_7 := n0_; have HO_10 := n1_; have HL182_0 := n2_; have HL182_1 := n3_; have HR182_0 := n4_; have HR182_1 := n5_; have HB := n6_; have BK183 := n7_; have GW183 := n8_; have GE183 := n9_; clear n0_ n1_ n2_ n3_ n4_ n5_ n6_ n7_ n8_ n9_; clear hb hbox hg; have hcz22_0 := cz0 BK183.out; have hcz22_1 := cz1 BK183.out; have hfz22_0 := blk_frozen BK183.out 0; have hfz22_1 := blk_frozen BK183.out 1))
       go_roundg k1
       case measure => have := HK1.out; omega
       case rel => exact ⟨(x7_1), (wrap64 (x12_1 + 1)), (by first | rfl | (simp; done) | (simp [*]; done)), H', ⟨by have := HK1.out; omega⟩, ⟨by (with_reducible repeat (first | apply Kd.N_alloc | apply Kd.N_drewN | apply Kd.N_drew)); exact Kd.N_mono (Kd.N_far (p := ⟨gb183, 1, none⟩) (Kd.N_far (p := ⟨gb183, 0, none⟩) (Kd.N_mono HO_7.out (fun k_ hk => (⟨hk, hk.2⟩ : _ ∧ k_ ≠ gb183))) (fun _ hk => hk.2) (.slice A182_0 ((rd_T60 l0 x12_1).f0).length c182_0)) (fun _ hk => hk.2) (.slice A182_1 ((rd_T60 l0 x12_1).f1).length c182_1)) (fun _ hk => hk.1.1)⟩, ⟨by (with_reducible repeat (first | apply Kd.V_alloc | apply Kd.V_drewN | apply Kd.V_drew)); exact Kd.V_mono (Kd.V_far (p := ⟨gb183, 1, none⟩) (Kd.V_far (p := ⟨gb183, 0, none⟩) (Kd.V_mono HO_10.out (fun k_ hk => (⟨hk, hk.2⟩ : _ ∧ k_ ≠ gb183))) (fun _ hk => hk.2) (.slice A182_0 ((rd_T60 l0 x12_1).f0).length c182_0)) (fun _ hk => hk.2) (.slice A182_1 ((rd_T60 l0 x12_1).f1).length c182_1)) (fun _ hk => ⟨hk.1.1.1, hk.1.1.2⟩)⟩, ⟨by repeat (first | (with_reducible first | exact HB.out | apply q4 | apply q5 | apply q6 | refine q7 ?_ GE183.out) | exact HB.out)⟩⟩
     ·
      rw [if_neg c6] at H
      exact absurd H (by simp)
    ·
     rw [if_neg c5] at H
     exact absurd H (by simp)
   ·
    rw [if_neg c4] at H
    have c4b0 : decide (x12_1 < (l0.length : Int)) = false := decide_eq_false c4
    clear c4
    obtain rfl := Option.some.inj H
    go_wp2
    go_ret
    exact ⟨_, by first | rfl | (simp [errW_none, errW_some] <;> rfl) | (simp [*, errW_none, errW_some] <;> rfl), by (with_reducible repeat (first | apply Kd.N_alloc | apply Kd.N_drewN | apply Kd.N_drew)); exact HO_7.out, by repeat (first | (with_reducible first | exact HB.out | apply q4 | apply q5 | apply q6) | exact HB.out)⟩
end Go.Proofs.YtbgmnmjokdfmlaaDoor.PA
namespace Go.Proofs.YtbgmnmjokdfmlaaDoor.PA
open Go.RowKit Go.Proofs.YtbgmnmjokdfmlaaDoor.G Go.Proofs.YtbgmnmjokdfmlaaDoorW.PrintWords Go.Proofs.YtbgmnmjokdfmlaaDoorW.PrintLast Go.Proofs.YtbgmnmjokdfmlaaDoorW.PrintMore
set_option linter.unusedVariables false
set_option linter.unusedSimpArgs false
def FewP (l : List S60) (m2 : Nat) (x : S60) : Prop := (∃ y ∈ l, x.f0 = y.f0 ∧ ∀ s ∈ x.f1, s ∈ y.f1) ∧ x.f0.length ≤ 10 ∧ x.f1.length ≤ m2
theorem few_from (l : List S60) (hl : l.length ≤ 2932031007402) (m1 m2 : Nat) : ∀ d i, i + d = l.length → ∀ (out : List S60), out.length ≤ i → out.length ≤ m1 → (∀ x ∈ out, FewP l m2 x) → ∃ r, (∀ k, d < k → dryrotplain_Few.l0 k (m1 : Int) (m2 : Int) out l (l.length : Int) (i : Int) = some r) ∧ r.length ≤ m1 ∧ ∀ x ∈ r, FewP l m2 x
  | 0, i, h, out, h1, h2, h3 => by
    refine ⟨out, fun k hk => ?_, h2, h3⟩
    cases k with
    | zero => omega
    | succ k => rw [dryrotplain_Few.l0, if_neg (by omega)]
  | d + 1, i, h, out, h1, h2, h3 => by
    have hi : i < l.length := by omega
    have hw : wrap64 ((i : Int) + 1) = ((i + 1 : Nat) : Int) := by unfold wrap64; omega
    have hm := rd_memZ l i hi
    have hmn : 0 ≤ mn ((rd_T60 l (i : Int)).f1.length : Int) (m2 : Int) ∧ mn ((rd_T60 l (i : Int)).f1.length : Int) (m2 : Int) ≤ ((rd_T60 l (i : Int)).f1.length : Int) ∧ mn ((rd_T60 l (i : Int)).f1.length : Int) (m2 : Int) ≤ (m2 : Int) := by
      unfold mn
      split <;> omega
    by_cases hc : (i : Int) < (m1 : Int) ∧ ((rd_T60 l (i : Int)).f0.length : Int) ≤ 10
    · obtain ⟨r, h4, h5, h6⟩ := few_from l hl m1 m2 d (i + 1) (by omega) (out ++ [⟨(rd_T60 l (i : Int)).f0, (rd_T60 l (i : Int)).f1.take (mn ((rd_T60 l (i : Int)).f1.length : Int) (m2 : Int)).toNat⟩]) (by rw [List.length_append]; simp; omega) (by rw [List.length_append]; simp; omega) (fun x hx => by
        rcases List.mem_append.1 hx with hx | hx
        · exact h3 x hx
        · simp only [List.mem_cons, List.not_mem_nil, or_false] at hx
          subst hx
          refine ⟨⟨_, hm, rfl, fun s hs => List.mem_of_mem_take hs⟩, by simp only; omega, ?_⟩
          simp only [List.length_take]
          omega)
      refine ⟨r, fun k hk => ?_, h5, h6⟩
      cases k with
      | zero => omega
      | succ k => rw [dryrotplain_Few.l0, if_pos (by omega), if_pos (by omega), if_pos (by omega), if_pos hc.1, if_pos hc.2, if_pos hmn.1, if_pos hmn.2.1, if_pos (by omega), hw]; exact h4 k (by omega)
    · obtain ⟨r, h4, h5, h6⟩ := few_from l hl m1 m2 d (i + 1) (by omega) out (by omega) h2 h3
      refine ⟨r, fun k hk => ?_, h5, h6⟩
      cases k with
      | zero => omega
      | succ k =>
        rw [dryrotplain_Few.l0, if_pos (by omega), if_pos (by omega), if_pos (by omega), hw]
        by_cases hc1 : (i : Int) < (m1 : Int)
        · rw [if_pos hc1, if_neg (fun h => hc ⟨hc1, h⟩)]; exact h4 k (by omega)
        · rw [if_neg hc1]; exact h4 k (by omega)
theorem few_L (l : List S60) (hl : l.length ≤ 2932031007402) (m1 m2 : Nat) : ∃ r, dryrotplain_Few.f (l.length + 1) l (m1 : Int) (m2 : Int) = some r ∧ r.length ≤ m1 ∧ ∀ x ∈ r, FewP l m2 x := by
  obtain ⟨r, h1, h2, h3⟩ := few_from l hl m1 m2 l.length 0 (by omega) [] (Nat.zero_le _) (Nat.zero_le _) (fun x hx => by cases hx)
  exact ⟨r, h1 _ (by omega), h2, h3⟩
def okW (l : List S60) : Prop := ∀ x ∈ l, okLs x.f0 ∧ ∀ s ∈ x.f1, okS s
theorem few_okZ {l r : List S60} (hw : okW l) (m2 : Nat) (h2 : m2 ≤ 20000) (h : ∀ x ∈ r, FewP l m2 x) : okZ r := fun x hx => by
  obtain ⟨⟨y, hy, e0, e1⟩, h0, h1⟩ := h x hx
  refine ⟨by rw [e0]; exact (hw y hy).1, by omega, by omega, fun s hs => (hw y hy).2 s (e1 s hs)⟩
end Go.Proofs.YtbgmnmjokdfmlaaDoor.PA
namespace Go.Proofs.YtbgmnmjokdfmlaaDoor.PA
open Go.RowKit Go.Proofs.YtbgmnmjokdfmlaaDoor.G Go.Proofs.YtbgmnmjokdfmlaaDoorW.PrintWords Go.Proofs.YtbgmnmjokdfmlaaDoorW.PrintLast Go.Proofs.YtbgmnmjokdfmlaaDoorW.PrintMore
set_option linter.unusedVariables false
set_option linter.unusedSimpArgs false
theorem run_copy2 (w : World) (dT sT ty elem : TypeId) (b o dLen dCap : Nat) (a : Addr) (sLen sCap : Nat) (cs : List Value)
    (hu : Tryd.prog.underlying dT = some (.slice elem)) (hs : (Tryd.prog.info? elem).map (·.size) = some 2) (hn : Nat.min sLen dLen * 2 = cs.length)
    (hsrc : ∀ j v, cs[j]? = some v → w.cell? (a.add j) = some v) (hc : ∀ j, j < cs.length → (w.cell? ⟨b, o + j, none⟩).isSome = true) (hf : ∀ j, j < cs.length → w.frozen? ⟨b, o + j, none⟩ = false) (h1 : ∀ v ∈ cs, v.oneCell' = true) :
    (Builtin.copy_ #[dT, sT] ty #[.slice (some ⟨b, o, none⟩) dLen dCap, .slice (some a) sLen sCap]).run Tryd.prog w = .ok (goInt (Nat.min sLen dLen : Nat)) (w.setCells b o cs) := by
  have hl := run_loadCells_list (P := Tryd.prog) w a cs hsrc
  have hst := run_storeCells_cells (P := Tryd.prog) b o cs 0 w (by simpa using hc) (by simpa using hf) h1
  cases hq : Tryd.prog.info? elem with
  | none => simp [hq] at hs
  | some i =>
    have hi : i.size = 2 := by simpa [hq] using hs
    simp [Builtin.copy_, run_underlying hu, Builtin.lenOf, Builtin.firstCells, sizeOf, typeInfo, hq, hi, hn, hl, hst]
theorem info_size60 : (Tryd.prog.info? 60).map (·.size) = some 2 := by kernel_rfl
theorem sizeOf_ser : ∀ w, (Go.sizeOf 60).run Tryd.prog w = .ok 2 w := fun w => by kernel_rfl
theorem setCells_two {g : Nat} {e : TypeId} {w : World} {cur : Array Value} {xs c : List Value} {n i cap base : Nat} (hg : w.heap[g]? = some (.cells cur e (0, 0))) (hx : xs.length = n * 2) (hcur : cur.toList.take (n * 2) = xs) (hc : c.length = 2) (hsz : cur.size = cap * 2) (hi : i ≤ n) (hcap : n + 1 ≤ cap) (hcm : cap ≤ maxLen) (hb : base ≤ g) :
    ((w.setCells g ((i + 1) * 2) (xs.drop (i * 2))).setCells g (i * 2) c).ownsRow base e 2 (.slice (some ⟨g, 0, none⟩) (n + 1) cap) (n + 1) (xs.take (i * 2) ++ c ++ xs.drop (i * 2)) ∧ w.grownBy ((w.setCells g ((i + 1) * 2) (xs.drop (i * 2))).setCells g (i * 2) c) (some g) := by
  obtain ⟨cur1, h1, h2, h3⟩ := setCells_row (xs.drop (i * 2)) ((i + 1) * 2) w cur hg (by rw [List.length_drop]; omega)
  obtain ⟨cur2, h4, h5, h6⟩ := setCells_row c (i * 2) _ cur1 h1 (by omega)
  obtain ⟨s1, s2, s3, s4⟩ := setCells_same g (xs.drop (i * 2)) ((i + 1) * 2) w
  obtain ⟨t1, t2, t3, t4⟩ := setCells_same g c (i * 2) (w.setCells g ((i + 1) * 2) (xs.drop (i * 2)))
  refine ⟨⟨by simp; omega, .inr ⟨g, cap, cur2, rfl, hb, h4, by omega, hcm, by omega, ?_⟩⟩, ⟨t1.trans s1, t2.trans s2, t3.trans s3, by rw [t4, s4]; exact Nat.le_refl _, fun k _ hk => by rw [setCells_far _ _ k (fun e => hk (by rw [e])), setCells_far _ _ k (fun e => hk (by rw [e]))]⟩⟩
  have hl : cur.toList.length = cap * 2 := by rw [Array.length_toList, hsz]
  have hA : (List.take ((i + 1) * 2) cur.toList ++ xs.drop (i * 2) ++ List.drop ((i + 1) * 2 + (xs.drop (i * 2)).length) cur.toList).take (i * 2) = xs.take (i * 2) := by
    rw [List.append_assoc, List.take_append_of_le_length (by rw [List.length_take]; omega), List.take_take, Nat.min_eq_left (by omega), ← hcur, List.take_take, Nat.min_eq_left (by omega)]
  have hB : (List.take ((i + 1) * 2) cur.toList ++ xs.drop (i * 2) ++ List.drop ((i + 1) * 2 + (xs.drop (i * 2)).length) cur.toList).drop (i * 2 + c.length) = xs.drop (i * 2) ++ List.drop ((i + 1) * 2 + (xs.drop (i * 2)).length) cur.toList := by
    rw [List.append_assoc, List.drop_left' (by rw [List.length_take, hc]; omega)]
  rw [h6, h3, hA, hB, ← List.append_assoc, List.take_left' (by simp; omega)]
set_option maxHeartbeats 4000000 in
set_option maxRecDepth 100000 in
theorem insert_shift (base g cap n i vb : Nat) (xs : List Value) (c0 c1 : Value) (w : World) (h : w.ownsRow base 60 2 (.slice (some ⟨g, 0, none⟩) n cap) n xs) (hx1 : ∀ v ∈ xs, v.oneCell' = true) (hi : i < n) (hcap : n + 1 ≤ cap)
    (hv : w.heap[vb]? = some (.cells #[c0, c1] 60 (0, 0))) (hne : vb ≠ g) (h0 : c0.oneCell' = true) (h1 : c1.oneCell' = true) :
    Calls Tryd.prog 51 #[.slice (some ⟨g, 0, none⟩) n cap, .int .i64 i, .slice (some ⟨vb, 0, none⟩) 1 1] w fun e w' => e = .returned (.slice (some ⟨g, 0, none⟩) (n + 1) cap) ∧ w' = (w.drew.setCells g ((i + 1) * 2) (xs.drop (i * 2))).setCells g (i * 2) [c0, c1] := by
  obtain ⟨hxl, hr⟩ := h
  rcases hr with ⟨hno, _⟩ | ⟨g', cap', cur, he, hb, hg, hnc, hcm, hcs, htk⟩
  · cases hno
  · have he' : g = g' ∧ cap = cap' := by simpa using he
    obtain ⟨rfl, rfl⟩ := he'
    have hcm' : cap ≤ 9223372036854775807 := by have : maxLen ≤ 9223372036854775807 := by decide
                                                omega
    have hxj : ∀ k v, xs[k]? = some v → cur[k]? = some v := fun k v hk => by
      have hkl : k < n * 2 := by have := (List.getElem?_eq_some_iff.1 hk).1; omega
      rw [← Array.getElem?_toList]
      rw [← htk, List.getElem?_take, if_pos hkl] at hk
      exact hk
    have hsome : ∀ (W : World) (cu : Array Value), W.heap[g]? = some (.cells cu 60 (0, 0)) → cu.size = cap * 2 → ∀ k, k < cap * 2 → (W.cell? ⟨g, k, none⟩).isSome = true := fun W cu hW hz k hk => by
      rw [blk_cell hW, Array.getElem?_eq_getElem (by omega)]; rfl
    have hcp1 : ∀ ty dc sc, (Builtin.copy_ #[38, 38] ty #[.slice (some ⟨g, (i + 1) * 2, none⟩) (n - i) dc, .slice (some ⟨g, i * 2, none⟩) (n + 1 - i) sc]).run Tryd.prog w.drew = .ok (goInt (Nat.min (n + 1 - i) (n - i) : Nat)) (w.drew.setCells g ((i + 1) * 2) (xs.drop (i * 2))) := fun ty dc sc =>
      run_copy2 w.drew _ _ ty 60 g ((i + 1) * 2) (n - i) dc ⟨g, i * 2, none⟩ (n + 1 - i) sc (xs.drop (i * 2)) Tryd.underlying38 info_size60 (by rw [List.length_drop, hxl]; simp only [Nat.min_def]; split <;> omega)
        (fun j v hj => by
          rw [Addr.add_lit]
          show w.cell? _ = _
          rw [blk_cell hg]
          exact hxj _ v (by rwa [List.getElem?_drop] at hj))
        (fun j hj => by rw [List.length_drop, hxl] at hj; exact hsome w cur hg hcs _ (by omega)) (fun j hj => blk_frozen hg _) (fun v hv' => hx1 v (List.mem_of_mem_drop hv'))
    obtain ⟨cur1, k1, k2, k3⟩ := setCells_row (xs.drop (i * 2)) ((i + 1) * 2) w.drew cur hg (by rw [List.length_drop]; omega)
    have hv1 : (w.drew.setCells g ((i + 1) * 2) (xs.drop (i * 2))).heap[vb]? = some (.cells #[c0, c1] 60 (0, 0)) := by rw [setCells_far _ _ vb hne]; exact hv
    have hv0 : w.heap[vb]? = some (.cells #[c0, c1] 60 (0, 0)) := hv
    have hov : ∀ lb cb, (callFunc 80 #[.slice (some ⟨vb, 0, none⟩) 1 1, .slice (some ⟨g, (i + 1) * 2, none⟩) lb cb]).run Tryd.prog w = .ok (.value (.bool false)) w := fun lb cb => by
      rw [run_callFunc_extern Tryd.func80 (by kernel_rfl) (by kernel_rfl) (by kernel_rfl) (e := Extern.SlicesOverlaps.overlaps #[38, 38] #[4]) (by kernel_rfl),
        Lib.run_overlaps_apart w 38 4 60 Tryd.underlying38 2 sizeOf_ser ⟨vb, 0, none⟩ ⟨g, (i + 1) * 2, none⟩ 1 1 lb cb hne 60 60 2 (cap * 2) (by simp [World.shape?, hv]) (by simp [World.shape?, hg, hcs]) (by omega) (blk_frozen hv _) (blk_frozen hv _)]
      rfl
    obtain ⟨W1, hW1⟩ : ∃ W1, W1 = w.drew.setCells g ((i + 1) * 2) (xs.drop (i * 2)) := ⟨_, rfl⟩
    rw [← hW1] at hcp1 k1 hv1 ⊢
    have hcp2 : ∀ ty dc, (Builtin.copy_ #[38, 38] ty #[.slice (some ⟨g, i * 2, none⟩) (n + 1 - i) dc, .slice (some ⟨vb, 0, none⟩) 1 1]).run Tryd.prog W1 = .ok (goInt (Nat.min 1 (n + 1 - i) : Nat)) (W1.setCells g (i * 2) [c0, c1]) := fun ty dc =>
      run_copy2 W1 _ _ ty 60 g (i * 2) (n + 1 - i) dc ⟨vb, 0, none⟩ 1 1 [c0, c1] Tryd.underlying38 info_size60 (by simp only [Nat.min_def]; split <;> simp <;> omega)
        (fun j v hj => by
          rw [Addr.add_lit, blk_cell hv1, Nat.zero_add]
          simpa using hj)
        (fun j hj => by simp at hj; exact hsome W1 cur1 k1 (by omega) _ (by omega)) (fun j hj => blk_frozen k1 _) (fun v hv' => by simp at hv'; rcases hv' with rfl | rfl <;> assumption)
    have mixed : Tryd.prog.follows .mixedOrders = true := by kernel_rfl
    have HW1 := Aside0.mk hW1
    have hin : i ≤ n := by omega
    have hw1 : IntKind.i64.wrap ((i : Int) + 1) = (i : Int) + 1 := by rw [IntKind.wrap_i64]; omega
    have hb1 : (0 : Int) ≤ (i : Int) + 1 := by omega
    have htn : ((i : Int) + 1).toNat = i + 1 := by omega
    have hb3 : (i : Int) ≤ (n : Int) + 1 := by omega
    have hb5 : (i : Int) ≤ (n : Int) := by omega
    have hz2 : ¬ ((i : Int) = (n : Int)) := by omega
    have hz3 : ¬ ((n : Int) + 1 > (cap : Int)) := by omega
    have hb2 : ¬ (cap = i + 1) := by omega
    have hb4 : ¬ (cap = i) := by omega
    clear hW1 hv hg k1 k3 hv1 hv0 hsome hxj htk hxl hx1
    go_enter Tryd.func51, Tryd.ntmps51
    go_wp2_with (simp only [hov])
    go_region_law_o (refine step_copy_runI rfl _ _ 38 38 rfl _ _ (by simp [Act.eval, Act.put]) (by simp [Act.eval, Act.put]) (hcp1 _ _ _) ?_)
    go_wp2_with (at_builtin; refine wpList_copy_runI _ rfl _ _ 38 38 rfl _ _ rfl rfl (hcp2 _ _) ?_)
    go_ret
    exact ⟨rfl, rfl⟩
theorem grow_two {B : Nat} {e : TypeId} {w : World} {cur : Array Value} {xs c : List Value} {n i cap base : Nat} (hg : w.heap[B]? = some (.cells cur e (0, 0))) (hx : xs.length = n * 2) (hcur : cur.toList.take (i * 2) = xs.take (i * 2)) (hc : c.length = 2) (hsz : cur.size = cap * 2) (hi : i ≤ n) (hcap : n + 1 ≤ cap) (hcm : cap ≤ maxLen) (hb : base ≤ B) :
    ((w.setCells B (i * 2) c).drew.setCells B ((i + 1) * 2) (xs.drop (i * 2))).ownsRow base e 2 (.slice (some ⟨B, 0, none⟩) (n + 1) cap) (n + 1) (xs.take (i * 2) ++ c ++ xs.drop (i * 2)) ∧ w.grownBy ((w.setCells B (i * 2) c).drew.setCells B ((i + 1) * 2) (xs.drop (i * 2))) (some B) := by
  obtain ⟨cur1, h1, h2, h3⟩ := setCells_row c (i * 2) w cur hg (by omega)
  have h1' : (w.setCells B (i * 2) c).drew.heap[B]? = some (.cells cur1 e (0, 0)) := h1
  obtain ⟨cur2, h4, h5, h6⟩ := setCells_row (xs.drop (i * 2)) ((i + 1) * 2) _ cur1 h1' (by rw [List.length_drop]; omega)
  obtain ⟨s1, s2, s3, s4⟩ := setCells_same B c (i * 2) w
  obtain ⟨t1, t2, t3, t4⟩ := setCells_same B (xs.drop (i * 2)) ((i + 1) * 2) (w.setCells B (i * 2) c).drew
  have hl : cur.toList.length = cap * 2 := by rw [Array.length_toList, hsz]
  have hA : (List.take (i * 2) cur.toList ++ c ++ List.drop (i * 2 + c.length) cur.toList).take ((i + 1) * 2) = xs.take (i * 2) ++ c := by
    rw [List.take_left' (by rw [List.length_append, List.length_take]; omega), hcur]
  refine ⟨⟨by simp; omega, .inr ⟨B, cap, cur2, rfl, hb, h4, by omega, hcm, by omega, ?_⟩⟩, ⟨t1.trans s1, t2.trans s2, t3.trans s3, by rw [t4]; show w.heap.size ≤ (w.setCells B (i * 2) c).heap.size; rw [s4]; exact Nat.le_refl _, fun k _ hk => ?_⟩⟩
  · rw [h6, h3, hA, List.take_left' (by simp; omega)]
  · rw [setCells_far _ _ k (fun e => hk (by rw [e]))]
    show (w.setCells B (i * 2) c).heap[k]? = _
    rw [setCells_far _ _ k (fun e => hk (by rw [e]))]
set_option maxHeartbeats 4000000 in
set_option maxRecDepth 100000 in
theorem insert_grow (base g cap n i vb : Nat) (xs : List Value) (c0 c1 : Value) (w : World) (h : w.ownsRow base 60 2 (.slice (some ⟨g, 0, none⟩) n cap) n xs) (hx1 : ∀ v ∈ xs, v.oneCell' = true) (hi : i < n) (hcap : cap < n + 1) (hbig : n ≤ 1000000)
    (hv : w.heap[vb]? = some (.cells #[c0, c1] 60 (0, 0))) (h0 : c0.oneCell' = true) (h1 : c1.oneCell' = true) (hbase : base ≤ w.heap.size) :
    Calls Tryd.prog 51 #[.slice (some ⟨g, 0, none⟩) n cap, .int .i64 i, .slice (some ⟨vb, 0, none⟩) 1 1] w fun e w' => ∃ cap', e = .returned (.slice (some ⟨w.heap.size, 0, none⟩) (n + 1) cap') ∧ w'.ownsRow base 60 2 (.slice (some ⟨w.heap.size, 0, none⟩) (n + 1) cap') (n + 1) (xs.take (i * 2) ++ [c0, c1] ++ xs.drop (i * 2)) ∧ Below w.heap.size w w' := by
  obtain ⟨hxl, hr⟩ := h
  rcases hr with ⟨hno, _⟩ | ⟨g', cap', cur, he, hb, hg, hnc, hcm, hcs, htk⟩
  · cases hno
  · have he' : g = g' ∧ cap = cap' := by simpa using he
    obtain ⟨rfl, rfl⟩ := he'
    have hxj : ∀ k v, xs[k]? = some v → cur[k]? = some v := fun k v hk => by
      have hkl : k < n * 2 := by have := (List.getElem?_eq_some_iff.1 hk).1; omega
      rw [← Array.getElem?_toList]
      rw [← htk, List.getElem?_take, if_pos hkl] at hk
      exact hk
    obtain ⟨i0, hi0, hz0, hzs, hzb⟩ := info_parts info60
    have hold : (Builtin.firstCells i0.size i (.slice (some ⟨g, 0, none⟩) i cap)).run Tryd.prog w.drew = .ok (xs.take (i * 2)).toArray w.drew := by
      rw [hzs]
      exact run_firstCells_some w.drew 2 i ⟨g, 0, none⟩ i cap (xs.take (i * 2)) (by rw [List.length_take]; omega) (fun j v hj => by
        rw [Addr.add_lit, Nat.zero_add]
        rw [List.getElem?_take] at hj
        split at hj
        · show w.cell? _ = _
          rw [blk_cell hg]
          exact hxj j v hj
        · cases hj)
    have hik : i + (n + 1 - i) = n + 1 := by omega
    have hkk : (n : Int) + 1 - (i : Int) = ((n + 1 - i : Nat) : Int) := by omega
    have hfit : Builtin.nextslicecap (i + (n + 1 - i)) cap * i0.bytes ≤ 281474976710656 := by
      rw [hzb, hik]
      exact growslice_fits (by omega) (by omega)
    obtain ⟨G, hG⟩ : ∃ G, G = grownCap w (n + 1) cap 60 := ⟨_, rfl⟩
    have hG1 : n + 1 ≤ G := by rw [hG]; exact grownCap_ge w (n + 1) cap _
    have hG2 : G ≤ maxLen := by rw [hG]; exact grownCap_le_maxLen w (n + 1) cap _ (by have : (2000000 : Nat) ≤ maxLen := by decide
                                                                                      omega)
    obtain ⟨ROW, hROW⟩ : ∃ ROW : Array Value, ROW = (xs.take (i * 2)).toArray ++ Builtin.zeroCells (Value.agg #[.slice none 0 0, .slice none 0 0]).cells (n + 1 - i) ++ Builtin.zeroCells (Value.agg #[.slice none 0 0, .slice none 0 0]).cells (G - (n + 1)) := ⟨_, rfl⟩
    have hRs : ROW.size = G * 2 := by
      rw [hROW]
      simp [Builtin.zeroCells, Value.cells]
      omega
    have hRt : ROW.toList.take (i * 2) = xs.take (i * 2) := by
      rw [hROW, Array.toList_append, Array.toList_append, List.append_assoc, List.take_left' (by simp; omega)]
    have hrz : ∀ ty, (Builtin.append_ #[38, 3] ty #[.slice (some ⟨g, 0, none⟩) i cap, .int .i64 ((n : Int) + 1 - (i : Int))]).run Tryd.prog w = .ok (.slice (some ⟨w.heap.size, 0, none⟩) (n + 1) G) (w.drew.alloc (.cells ROW 60)) := fun ty => by
      have h := Lib.run_append_grow_zeros w 38 3 ty 60 i0 _ .i64 .i64 Tryd.underlying38 Tryd.underlying3 hi0 hz0 (some ⟨g, 0, none⟩) i cap (xs.take (i * 2)) hold (n + 1 - i) (by omega) (by omega) (by omega) (by omega) (by rw [hzb]; omega) hfit
      rw [hik, ← hG, ← hROW] at h
      rw [hkk]
      exact h
    have hB1 : (w.drew.alloc (.cells ROW 60)).heap[w.heap.size]? = some (.cells ROW 60 (0, 0)) := heap_alloc_new w.drew _
    have hgl := blk_lt hg
    have hvl := blk_lt hv
    have hg1 : (w.drew.alloc (.cells ROW 60)).heap[g]? = some (.cells cur 60 (0, 0)) := by rw [heap_alloc_old w.drew _ hgl]; exact hg
    have hv1 : (w.drew.alloc (.cells ROW 60)).heap[vb]? = some (.cells #[c0, c1] 60 (0, 0)) := by rw [heap_alloc_old w.drew _ hvl]; exact hv
    obtain ⟨hO, hGr⟩ := grow_two (base := base) (n := n) (i := i) (cap := G) (c := [c0, c1]) hB1 hxl hRt rfl hRs (by omega) hG1 hG2 hbase
    have hBel : Below w.heap.size w ((((w.drew.alloc (.cells ROW 60)).setCells w.heap.size (i * 2) [c0, c1]).drew.setCells w.heap.size ((i + 1) * 2) (xs.drop (i * 2)))) :=
      (Below.refl w.heap.size w).drew.alloc (Nat.le_refl _) _ |>.grown hGr (by show w.heap.size ≤ (w.drew.alloc _).heap.size; simp) (fun k hk => by cases hk; exact Nat.le_refl _)
    obtain ⟨W1, hW1⟩ : ∃ W1, W1 = w.drew.alloc (.cells ROW 60) := ⟨_, rfl⟩
    rw [← hW1] at hrz hB1 hg1 hv1 hO hBel
    have hcp1 : ∀ ty, (Builtin.copy_ #[38, 38] ty #[.slice (some ⟨w.heap.size, i * 2, none⟩) (n + 1 - i) (G - i), .slice (some ⟨vb, 0, none⟩) 1 1]).run Tryd.prog W1 = .ok (goInt (Nat.min 1 (n + 1 - i) : Nat)) (W1.setCells w.heap.size (i * 2) [c0, c1]) := fun ty =>
      run_copy2 W1 _ _ ty 60 w.heap.size (i * 2) (n + 1 - i) (G - i) ⟨vb, 0, none⟩ 1 1 [c0, c1] Tryd.underlying38 info_size60 (by simp only [Nat.min_def]; split <;> simp <;> omega)
        (fun j v hj => by
          rw [Addr.add_lit, blk_cell hv1, Nat.zero_add]
          simpa using hj)
        (fun j hj => by simp at hj; rw [blk_cell hB1, Array.getElem?_eq_getElem (by omega)]; rfl) (fun j hj => blk_frozen hB1 _) (fun v hv' => by simp at hv'; rcases hv' with rfl | rfl <;> assumption)
    obtain ⟨cur1, k1, k2, _⟩ := setCells_row [c0, c1] (i * 2) W1 ROW hB1 (by simp; omega)
    have hg2 : (W1.setCells w.heap.size (i * 2) [c0, c1]).heap[g]? = some (.cells cur 60 (0, 0)) := by rw [setCells_far _ _ g (by omega)]; exact hg1
    obtain ⟨W2, hW2⟩ : ∃ W2, W2 = W1.setCells w.heap.size (i * 2) [c0, c1] := ⟨_, rfl⟩
    rw [← hW2] at hcp1 k1 hg2 hO hBel
    have hcp2 : ∀ ty, (Builtin.copy_ #[38, 38] ty #[.slice (some ⟨w.heap.size, (i + 1) * 2, none⟩) (n - i) (G - (i + 1)), .slice (some ⟨g, i * 2, none⟩) (n - i) (cap - i)]).run Tryd.prog W2.drew = .ok (goInt (Nat.min (n - i) (n - i) : Nat)) (W2.drew.setCells w.heap.size ((i + 1) * 2) (xs.drop (i * 2))) := fun ty =>
      run_copy2 W2.drew _ _ ty 60 w.heap.size ((i + 1) * 2) (n - i) _ ⟨g, i * 2, none⟩ (n - i) _ (xs.drop (i * 2)) Tryd.underlying38 info_size60 (by rw [List.length_drop, hxl]; simp only [Nat.min_def]; split <;> omega)
        (fun j v hj => by
          rw [Addr.add_lit]
          show W2.cell? _ = _
          rw [blk_cell hg2]
          exact hxj _ v (by rwa [List.getElem?_drop] at hj))
        (fun j hj => by
          rw [List.length_drop, hxl] at hj
          show (W2.cell? _).isSome = true
          rw [blk_cell k1, Array.getElem?_eq_getElem (by omega)]; rfl) (fun j hj => blk_frozen (w := W2) k1 _) (fun v hv' => hx1 v (List.mem_of_mem_drop hv'))
    have mixed : Tryd.prog.follows .mixedOrders = true := by kernel_rfl
    have HO := Aside0.mk hO
    have HBel := Aside0.mk hBel
    have hin : i ≤ n := by omega
    have hw1 : IntKind.i64.wrap ((i : Int) + 1) = (i : Int) + 1 := by rw [IntKind.wrap_i64]; omega
    have hb1 : (0 : Int) ≤ (i : Int) + 1 := by omega
    have htn : ((i : Int) + 1).toNat = i + 1 := by omega
    have hb3 : (i : Int) ≤ (n : Int) + 1 := by omega
    have hb5 : (i : Int) ≤ (n : Int) := by omega
    have hz2 : ¬ ((i : Int) = (n : Int)) := by omega
    have hz3 : (n : Int) + 1 > (cap : Int) := by omega
    have hic : i ≤ cap := by omega
    have hg1' : ¬ G = i + 1 := by omega
    have hg2' : ¬ G = i := by omega
    have hc2' : ¬ cap = i := by omega
    have hiG : (i : Int) + 1 ≤ (G : Int) := by omega
    clear hW1 hW2 hv hg k1 hB1 hg1 hv1 hg2 hxj htk hxl hx1 hO hBel hG hROW hRs hRt hGr hkk hik hold hi0 hz0 hfit
    generalize w.heap.size = B at *
    go_enter Tryd.func51, Tryd.ntmps51
    go_wp2_with (first | (at_builtin; refine Lib.wpList_append_run _ rfl _ _ _ _ rfl _ _ rfl rfl _ _ (hrz _) ?_) | (at_builtin; refine wpList_copy_runI _ rfl _ _ 38 38 rfl _ _ rfl rfl (hcp1 _) ?_))
    go_region_law_o (refine step_copy_runI rfl _ _ 38 38 rfl _ _ (by simp [Act.eval, Act.put]) (by simp [Act.eval, Act.put]) (hcp2 _) ?_)
    go_wp2
    go_ret
    exact ⟨G, rfl, HO.out, HBel.out⟩
def Two (rows : List (List Value)) : Prop := ∀ r ∈ rows, r.length = 2 ∧ ∀ u ∈ r, u.oneCell' = true
theorem reps_two : ∀ (rows : List (List Value)) (inner : List Value), Reps (fun (x cs : List Value) => cs = x ∧ cs.length = 2 ∧ ∀ u ∈ cs, u.oneCell' = true) 2 rows inner → inner = rows.flatten ∧ Two rows
  | [], inner, h => ⟨List.eq_nil_of_length_eq_zero (by simpa using h.1), fun r hr => by cases hr⟩
  | r :: rs, inner, h => by
    have h0 := h.2 0 r rfl
    rw [Nat.zero_mul, List.drop_zero] at h0
    have ih := reps_two rs (inner.drop 2) ⟨by rw [List.length_drop, h.1, List.length_cons]; omega, fun j p hj => by
      have := h.2 (j + 1) p (by simpa using hj)
      rw [List.drop_drop]
      rwa [show (j + 1) * 2 = 2 + j * 2 from by omega] at this⟩
    refine ⟨?_, fun x hx => ?_⟩
    · rw [List.flatten_cons, ← ih.1, ← h0.1, List.take_append_drop]
    · rcases List.mem_cons.1 hx with rfl | hx
      · rw [← h0.1]; exact h0.2
      · exact ih.2 x hx
theorem two_reps : ∀ (rows : List (List Value)), Two rows → Reps (fun (x cs : List Value) => cs = x ∧ cs.length = 2 ∧ ∀ u ∈ cs, u.oneCell' = true) 2 rows rows.flatten
  | [], _ => Reps.none _ _
  | r :: rs, h => Reps.front (R := fun (x cs : List Value) => cs = x ∧ cs.length = 2 ∧ ∀ u ∈ cs, u.oneCell' = true) ⟨rfl, h r (List.mem_cons_self ..)⟩ (h r (List.mem_cons_self ..)).1 (two_reps rs (fun x hx => h x (List.mem_cons_of_mem _ hx))) rfl
theorem two_take : ∀ (rows : List (List Value)) (i : Nat), Two rows → rows.flatten.take (i * 2) = (rows.take i).flatten ∧ rows.flatten.drop (i * 2) = (rows.drop i).flatten
  | [], i, _ => by simp
  | r :: rs, 0, _ => by simp
  | r :: rs, i + 1, h => by
    have ih := two_take rs i (fun x hx => h x (List.mem_cons_of_mem _ hx))
    have hr := (h r (List.mem_cons_self ..)).1
    rw [List.flatten_cons, List.take_succ_cons, List.flatten_cons, List.drop_succ_cons, ← ih.1, ← ih.2]
    constructor
    · rw [List.take_append, hr, List.take_of_length_le (by omega), show (i + 1) * 2 - 2 = i * 2 from by omega]
    · rw [List.drop_append, hr, List.drop_of_length_le (by omega), show (i + 1) * 2 - 2 = i * 2 from by omega, List.nil_append]
abbrev RR (w : World) (base : Nat) (v : Value) (rows : List (List Value)) : Prop := (Kd.raw 2).R 60 w base (fun _ => True) v rows
theorem rr_own {w : World} {base : Nat} {v : Value} {rows : List (List Value)} (h : RR w base v rows) : w.ownsRow base 60 2 v rows.length rows.flatten ∧ Two rows := by
  obtain ⟨_, inner, ho, hr⟩ := h
  obtain ⟨he, ht⟩ := reps_two rows inner hr
  rw [he] at ho
  exact ⟨ho, ht⟩
theorem own_rr {w : World} {base n : Nat} {v : Value} {rows : List (List Value)} (h : w.ownsRow base 60 2 v n rows.flatten) (hn : rows.length = n) (ht : Two rows) : RR w base v rows := by
  subst hn
  exact ⟨fun _ _ => trivial, rows.flatten, h, two_reps rows ht⟩
theorem two_ins {rows : List (List Value)} {c : List Value} (h : Two rows) (hc : c.length = 2) (h1 : ∀ u ∈ c, u.oneCell' = true) (i : Nat) : Two (rows.take i ++ [c] ++ rows.drop i) := fun r hr => by
  rcases List.mem_append.1 hr with hr | hr
  · rcases List.mem_append.1 hr with hr | hr
    · exact h r (List.mem_of_mem_take hr)
    · rw [List.mem_singleton] at hr
      subst hr
      exact ⟨hc, h1⟩
  · exact h r (List.mem_of_mem_drop hr)
theorem flat_ins {rows : List (List Value)} (h : Two rows) (c : List Value) (i : Nat) : (rows.take i ++ [c] ++ rows.drop i).flatten = rows.flatten.take (i * 2) ++ c ++ rows.flatten.drop (i * 2) := by
  rw [(two_take rows i h).1, (two_take rows i h).2, List.flatten_append, List.flatten_append]
  simp
set_option maxHeartbeats 4000000 in
set_option maxRecDepth 100000 in
theorem insert_end (base n vb : Nat) (v : Value) (rows : List (List Value)) (c0 c1 : Value) (w : World) (hn : rows.length = n) (h : RR w base v rows) (hbig : n ≤ 1000000)
    (hv : w.heap[vb]? = some (.cells #[c0, c1] 60 (0, 0))) (h0 : c0.oneCell' = true) (h1 : c1.oneCell' = true) (hbase : base ≤ w.heap.size) :
    Calls Tryd.prog 51 #[v, .int .i64 n, .slice (some ⟨vb, 0, none⟩) 1 1] w fun e w' => ∃ v', e = .returned v' ∧ RR w' base v' (rows ++ [[c0, c1]]) ∧ w.grownBy w' v.ownBlock ∧ (v'.ownBlock = v.ownBlock ∨ ∃ b, v'.ownBlock = some b ∧ w.heap.size ≤ b) := by
  obtain ⟨A, c, rfl⟩ := Kd.R_slice h
  rw [hn] at h ⊢
  have HO := Aside0.mk h
  have HN := Aside0.mk hn
  have HBS := Aside0.mk hbase
  have HRD : Aside0 (ReadsRow (fun (x cs : List Value) => cs = x ∧ cs.length = 2 ∧ ∀ u ∈ cs, u.oneCell' = true) 2 w (some ⟨vb, 0, none⟩) 1 [[c0, c1]]) := ⟨⟨rfl, by omega, fun _ => ⟨⟨vb, 0, none⟩, rfl, fun j p hj => by
    rcases j with _ | j
    · simp at hj
      subst hj
      refine ⟨[c0, c1], rfl, ⟨rfl, rfl, fun u hu => by simp at hu; rcases hu with rfl | rfl <;> assumption⟩, fun i u hi => ?_⟩
      rw [Addr.add_lit, blk_cell hv, Nat.zero_add, Nat.zero_mul, Nat.zero_add]
      simpa using hi
    · simp at hj⟩⟩⟩
  have hcapn : ¬ (n : Int) < 0 := by omega
  have hnc : Aside0 (n ≤ c) := ⟨by
    rcases h with ⟨_, inner, ⟨hl, ho⟩, _⟩
    rcases ho with ⟨h1, h2⟩ | ⟨g, cap, cur, h1, h2, h3, h4, h5, h6⟩
    · rw [hn] at h2; omega
    · simp at h1
      omega⟩
  have hncz := hnc.out
  clear h hn hbase hv hnc
  go_enter Tryd.func51, Tryd.ntmps51
  cases A with
  | none =>
    go_wp2_with ((with_reducible refine gate_dst (N := 25) rfl ?_); refine Kd.R_append_rows (Kd.raw 2) (w0 := w) base rfl (.tmp 23) (.tmp 24) 38 60 (.agg #[.slice none 0 0, .slice none 0 0]) 48 rfl Tryd.underlying38 info60 rfl (by decide) (by omega) _ rows [[c0, c1]] (some ⟨vb, 0, none⟩) 1 1 (fun _ => True) (fun _ => False) rfl rfl HO.out HRD.out (fun x cs hx => hx) (fun _ hk => hk.elim) (fun _ _ => trivial) (Below.refl _ _) ?hb ?hl ?_; (case hb => exact HBS.out); (case hl => (rw [HN.out]; omega)); intro v1 w1 hR1 hB1 hg_ ho_; have HR1 := Aside0.mk hR1; have HG1 := Aside0.mk hg_; have HO1 := Aside0.mk ho_; clear hR1 hB1 hg_ ho_)
    go_ret
    exact ⟨_, rfl, HR1.out, HG1.out, HO1.out⟩
  | some a =>
    obtain ⟨ab, ao, asp⟩ := a
    go_wp2_with ((with_reducible refine gate_dst (N := 25) rfl ?_); refine Kd.R_append_rows (Kd.raw 2) (w0 := w) base rfl (.tmp 23) (.tmp 24) 38 60 (.agg #[.slice none 0 0, .slice none 0 0]) 48 rfl Tryd.underlying38 info60 rfl (by decide) (by omega) _ rows [[c0, c1]] (some ⟨vb, 0, none⟩) 1 1 (fun _ => True) (fun _ => False) rfl rfl HO.out HRD.out (fun x cs hx => hx) (fun _ hk => hk.elim) (fun _ _ => trivial) (Below.refl _ _) ?hb ?hl ?_; (case hb => exact HBS.out); (case hl => (rw [HN.out]; omega)); intro v1 w1 hR1 hB1 hg_ ho_; have HR1 := Aside0.mk hR1; have HG1 := Aside0.mk hg_; have HO1 := Aside0.mk ho_; clear hR1 hB1 hg_ ho_)
    all_goals (go_ret; exact ⟨_, rfl, HR1.out, HG1.out, HO1.out⟩)
theorem rr_form {w : World} {base : Nat} {v : Value} {rows : List (List Value)} (h : RR w base v rows) (h0 : 0 < rows.length) : ∃ g cap, v = .slice (some ⟨g, 0, none⟩) rows.length cap ∧ rows.length ≤ cap ∧ cap ≤ maxLen ∧ base ≤ g ∧ ∃ cur, w.heap[g]? = some (.cells cur 60 (0, 0)) ∧ cur.size = cap * 2 := by
  obtain ⟨⟨_, ho⟩, _⟩ := rr_own h
  rcases ho with ⟨_, h1⟩ | ⟨g, cap, cur, he, hb, hh, h1, h2, h3, h4⟩
  · omega
  · exact ⟨g, cap, he, h1, h2, hb, cur, hh, h3⟩
theorem insert.calls (base n i vb : Nat) (v : Value) (rows : List (List Value)) (c0 c1 : Value) (w : World) (hn : rows.length = n) (h : RR w base v rows) (hi : i ≤ n) (hbig : n ≤ 1000000)
    (hv : w.heap[vb]? = some (.cells #[c0, c1] 60 (0, 0))) (hne : some vb ≠ v.ownBlock) (h0 : c0.oneCell' = true) (h1 : c1.oneCell' = true) (hbase : base ≤ w.heap.size) :
    Calls Tryd.prog 51 #[v, .int .i64 i, .slice (some ⟨vb, 0, none⟩) 1 1] w fun e w' => ∃ v', e = .returned v' ∧ RR w' base v' (rows.take i ++ [[c0, c1]] ++ rows.drop i) ∧ w.grownBy w' v.ownBlock ∧ (v'.ownBlock = v.ownBlock ∨ ∃ b, v'.ownBlock = some b ∧ w.heap.size ≤ b) := by
  rcases Nat.lt_or_ge i n with hlt | hge
  · obtain ⟨ho, ht⟩ := rr_own h
    obtain ⟨g, cap, rfl, hnc, hcm, hbg, cur, hg, hcs⟩ := rr_form h (by omega)
    rw [hn] at ho hnc
    rw [hn]
    have hx1 : ∀ u ∈ rows.flatten, u.oneCell' = true := fun u hu => by
      obtain ⟨r, hr, hur⟩ := List.mem_flatten.1 hu
      exact (ht r hr).2 u hur
    have ht2 : Two (rows.take i ++ [[c0, c1]] ++ rows.drop i) := two_ins ht rfl (fun u hu => by simp at hu; rcases hu with rfl | rfl <;> assumption) i
    have hl2 : (rows.take i ++ [[c0, c1]] ++ rows.drop i).length = n + 1 := by simp; omega
    have hne' : vb ≠ g := fun e => hne (by rw [e]; rfl)
    by_cases hcap : n + 1 ≤ cap
    · refine Calls.mono (insert_shift base g cap n i vb rows.flatten c0 c1 w ho hx1 hlt hcap hv hne' h0 h1) ?_
      rintro e w' ⟨rfl, rfl⟩
      have htk : cur.toList.take (n * 2) = rows.flatten := by
        rcases ho.2 with ⟨hno, _⟩ | ⟨g', cap', cur', he, _, hh, _, _, _, h4⟩
        · cases hno
        · have he' : g = g' ∧ cap = cap' := by simpa using he
          obtain ⟨rfl, rfl⟩ := he'
          rw [hg] at hh
          injection hh with hh
          injection hh with hh
          rw [hh]; exact h4
      have := setCells_two (w := w.drew) (base := base) (i := i) (cap := cap) (c := [c0, c1]) hg ho.1 htk rfl hcs hi hcap hcm hbg
      rw [← flat_ins ht] at this
      exact ⟨_, rfl, own_rr this.1 hl2 ht2, ⟨this.2.os, this.2.tape, this.2.output, this.2.size, this.2.block⟩, .inl rfl⟩
    · refine Calls.mono (insert_grow base g cap n i vb rows.flatten c0 c1 w ho hx1 hlt (by omega) hbig hv h0 h1 hbase) ?_
      rintro e w' ⟨cap', rfl, hO, hB⟩
      rw [← flat_ins ht] at hO
      exact ⟨_, rfl, own_rr hO hl2 ht2, grown_of_below hB _, .inr ⟨w.heap.size, rfl, Nat.le_refl _⟩⟩
  · obtain rfl : i = n := by omega
    refine Calls.mono (insert_end base i vb v rows c0 c1 w hn h hbig hv h0 h1 hbase) ?_
    rintro e w' ⟨v', rfl, hR, hG, hO⟩
    exact ⟨v', rfl, by rw [List.take_of_length_le (by omega), List.drop_of_length_le (by omega), List.append_nil]; exact hR, hG, hO⟩
end Go.Proofs.YtbgmnmjokdfmlaaDoor.PA
namespace Go.Proofs.YtbgmnmjokdfmlaaDoor.PA
open Go.RowKit Go.Proofs.YtbgmnmjokdfmlaaDoor.G Go.Proofs.YtbgmnmjokdfmlaaDoorW.PrintWords Go.Proofs.YtbgmnmjokdfmlaaDoorW.PrintLast Go.Proofs.YtbgmnmjokdfmlaaDoorW.PrintMore
set_option linter.unusedVariables false
set_option linter.unusedSimpArgs false
theorem blt : ∀ (x y : List UInt8), Op.bytesLess x y = decide (x < y)
  | [], [] => by simp [Op.bytesLess]
  | _ :: _, [] => by simp [Op.bytesLess]
  | [], _ :: _ => by simp [Op.bytesLess]
  | a :: x, b :: y => by
    rw [Op.bytesLess, blt x y]
    simp only [List.cons_lt_cons_iff]
    by_cases h1 : a < b <;> by_cases h2 : a = b <;> by_cases h3 : x < y <;> simp [h1, h2, h3]
structure Ord3 {α : Type} (c : α → α → Int) : Prop where
  eq : ∀ x y, c x y = 0 ↔ x = y
  swap : ∀ x y, c y x = - c x y
  trans : ∀ x y z, c x y < 0 → c y z < 0 → c x z < 0
theorem bytes_inj2 {a b : ByteArray} (h : a.toList = b.toList) : a = b := by
  rw [ByteArray.toList_eq, ByteArray.toList_eq] at h
  cases a; cases b
  simp at h
  rw [h]
theorem txt_lt (a b : ByteArray) : txt a b < 0 ↔ a.toList < b.toList := by
  unfold txt
  rw [blt]
  by_cases h : a.toList < b.toList
  · simp [h]
  · simp [h]
    split <;> simp
theorem txt_eq (a b : ByteArray) : txt a b = 0 ↔ a = b := by
  unfold txt
  rw [blt]
  by_cases h : a.toList < b.toList
  · simp [h]
    rintro rfl
    exact List.lt_irrefl _ h
  · simp [h]
    constructor
    · intro h2
      exact bytes_inj2 h2
    · rintro rfl
      rfl
theorem txt_swap (a b : ByteArray) : txt b a = - txt a b := by
  unfold txt
  rw [blt, blt]
  by_cases h : a.toList < b.toList
  · have h2 : ¬ b.toList < a.toList := List.lt_asymm h
    have h3 : ¬ b.toList = a.toList := fun e => by rw [e] at h; exact List.lt_irrefl _ h
    simp [h, h2, h3]
  · by_cases h2 : b.toList < a.toList
    · have h3 : ¬ a.toList = b.toList := fun e => by rw [e] at h2; exact List.lt_irrefl _ h2
      simp [h, h2, h3]
    · have h3 : a.toList = b.toList := List.le_antisymm (List.not_lt.1 h2) (List.not_lt.1 h)
      simp [h3, List.lt_irrefl b.toList]
theorem ord_txt : Ord3 txt := ⟨txt_eq, txt_swap, fun x y z h1 h2 => by
  rw [txt_lt] at *
  exact List.lt_trans h1 h2⟩
theorem ord_lex {α β : Type} {c : α → α → Int} {d : β → β → Int} (hc : Ord3 c) (hd : Ord3 d) : Ord3 (fun (x y : α × β) => cmpOr (c x.1 y.1) (d x.2 y.2)) := by
  refine ⟨fun x y => ?_, fun x y => ?_, fun x y z h1 h2 => ?_⟩
  · show cmpOr _ _ = 0 ↔ _
    unfold cmpOr
    by_cases h : c x.1 y.1 = 0
    · rw [if_neg (by simpa using h), hd.eq]
      have := (hc.eq _ _).1 h
      exact ⟨fun h2 => Prod.ext this h2, fun h2 => by rw [h2]⟩
    · rw [if_pos h]
      exact ⟨fun h2 => absurd h2 h, fun h2 => absurd ((hc.eq _ _).2 (by rw [h2])) h⟩
  · show cmpOr _ _ = - cmpOr _ _
    unfold cmpOr
    rw [hc.swap x.1 y.1, hd.swap x.2 y.2]
    by_cases h : c x.1 y.1 = 0
    · rw [if_neg (by simp [h]), if_neg (by simp [h])]
    · rw [if_pos (by simpa using h), if_pos h]
  · show cmpOr _ _ < 0
    have h1' : cmpOr (c x.1 y.1) (d x.2 y.2) < 0 := h1
    have h2' : cmpOr (c y.1 z.1) (d y.2 z.2) < 0 := h2
    unfold cmpOr at *
    by_cases e1 : c x.1 y.1 = 0
    · rw [if_neg (by simp [e1])] at h1'
      have := (hc.eq _ _).1 e1
      rw [this]
      by_cases e2 : c y.1 z.1 = 0
      · rw [if_neg (by simp [e2])] at h2' ⊢
        exact hd.trans _ _ _ h1' h2'
      · rw [if_pos e2] at h2' ⊢
        exact h2'
    · rw [if_pos e1] at h1'
      by_cases e2 : c y.1 z.1 = 0
      · have := (hc.eq _ _).1 e2
        rw [← this, if_pos e1]
        exact h1'
      · rw [if_pos e2] at h2'
        have := hc.trans _ _ _ h1' h2'
        rw [if_pos (by omega)]
        exact this
theorem ord_cmpX : Ord3 cmpX := by
  have h := ord_lex ord_txt ord_txt
  refine ⟨fun x y => ?_, fun x y => h.swap (x.f0, x.f1) (y.f0, y.f1), fun x y z => h.trans (x.f0, x.f1) (y.f0, y.f1) (z.f0, z.f1)⟩
  have := h.eq (x.f0, x.f1) (y.f0, y.f1)
  refine Iff.trans this ⟨fun e => ?_, fun e => by rw [e]⟩
  cases x; cases y
  simp at e
  rw [e.1, e.2]
theorem cmpL_cons (x y : S65) (a b : List S65) : cmpL (x :: a) (y :: b) = cmpOr (cmpX x y) (cmpL a b) := rfl
theorem cmpL_eq0 : ∀ a b : List S65, cmpL a b = 0 ↔ a = b
  | [], [] => by simp [cmpL]
  | [], y :: b => by simp [cmpL]
  | x :: a, [] => by simp [cmpL]
  | x :: a, y :: b => by
    rw [cmpL_cons]
    unfold cmpOr
    by_cases h : cmpX x y = 0
    · rw [if_neg (by simp [h]), cmpL_eq0 a b, (ord_cmpX.eq _ _).1 h]
      simp
    · rw [if_pos h]
      exact ⟨fun h2 => absurd h2 h, fun h2 => absurd ((ord_cmpX.eq _ _).2 (List.cons.inj h2).1) h⟩
theorem cmpL_swap : ∀ a b : List S65, cmpL b a = - cmpL a b
  | [], [] => rfl
  | [], y :: b => rfl
  | x :: a, [] => rfl
  | x :: a, y :: b => by
    rw [cmpL_cons, cmpL_cons]
    unfold cmpOr
    rw [ord_cmpX.swap x y, cmpL_swap a b]
    by_cases h : cmpX x y = 0
    · rw [if_neg (by simp [h]), if_neg (by simp [h])]
    · rw [if_pos (by simpa using h), if_pos h]
theorem cmpL_trans : ∀ a b c : List S65, cmpL a b < 0 → cmpL b c < 0 → cmpL a c < 0
  | [], [], c, h1, h2 => by simp [cmpL] at h1
  | [], y :: b, [], h1, h2 => by simp [cmpL] at h2
  | [], y :: b, z :: c, h1, h2 => by simp [cmpL]
  | x :: a, [], c, h1, h2 => by simp [cmpL] at h1
  | x :: a, y :: b, [], h1, h2 => by simp [cmpL] at h2
  | x :: a, y :: b, z :: c, h1, h2 => by
    rw [cmpL_cons] at *
    unfold cmpOr at *
    by_cases e1 : cmpX x y = 0
    · rw [if_neg (by simp [e1])] at h1
      have := (ord_cmpX.eq _ _).1 e1
      rw [this]
      by_cases e2 : cmpX y z = 0
      · rw [if_neg (by simp [e2])] at h2 ⊢
        exact cmpL_trans a b c h1 h2
      · rw [if_pos e2] at h2 ⊢
        exact h2
    · rw [if_pos e1] at h1
      by_cases e2 : cmpX y z = 0
      · have := (ord_cmpX.eq _ _).1 e2
        rw [← this, if_pos e1]
        exact h1
      · rw [if_pos e2] at h2
        have := ord_cmpX.trans _ _ _ h1 h2
        rw [if_pos (by omega)]
        exact this
end Go.Proofs.YtbgmnmjokdfmlaaDoor.PA
namespace Go.Proofs.YtbgmnmjokdfmlaaDoor.PA
open Go.RowKit Go.Proofs.YtbgmnmjokdfmlaaDoor.G Go.Proofs.YtbgmnmjokdfmlaaDoorW.PrintWords Go.Proofs.YtbgmnmjokdfmlaaDoorW.PrintLast Go.Proofs.YtbgmnmjokdfmlaaDoorW.PrintMore
set_option linter.unusedVariables false
set_option linter.unusedSimpArgs false
theorem k65_KM {w w' : World} {base : Nat} {ok : Nat → Prop} {x : S65} {cs : List Value} (h : k65.K w x cs) : k65.M w' base ok x cs := by
  rw [k65_open h]
  exact k65_mkM _ _ _ x
set_option maxHeartbeats 800000 in
theorem CloneL.calls (A0 : Option Addr) (c0 : Nat) (l0 : List S65) (n : Nat) (w : World) (hn : l0.length = n) (hr0 : Kd.C k65 w A0 l0.length l0) (hc0 : l0.length ≤ c0) (hlen : l0.length ≤ 1000000) :
    Calls Tryd.prog 52 #[.slice A0 n c0] w fun e w' => ∃ v0_ : Value, e = .returned (v0_) ∧ Kd.R k65 65 w' w.heap.size (fun _ => True) v0_ l0 ∧ Below w.heap.size w w' := by
  subst hn
  have HR := Aside0.mk hr0
  have HL := Aside0.mk hlen
  have hnil := fun W n c => Lib.run_eql_slice_nil (P := Tryd.prog) W 27 65 A0 n c 0 0 Tryd.underlying27
  clear hr0 hc0 hlen
  cases A0 with
  | none =>
    have h0 : l0 = [] := by
      rcases Nat.eq_zero_or_pos l0.length with h0 | h0
      · exact List.eq_nil_of_length_eq_zero h0
      · obtain ⟨ad, e, _⟩ := HR.out.2.2 h0
        cases e
    subst h0
    go_enter Tryd.func52, Tryd.ntmps52
    go_wp2
    go_ret
    exact ⟨_, rfl, Kd.R_nil _ _ _ _ _, Below.refl _ _⟩
  | some ad =>
    go_enter Tryd.func52, Tryd.ntmps52
    have hE := Aside0.mk (R_empty k65 65 w.heap.size w (fun _ => True) (Nat.le_refl _) trivial)
    go_wp2_with ((with_reducible refine gate_dst (N := 7) rfl ?_); refine Kd.R_append_rows k65 (w0 := w) w.heap.size rfl (.tmp 5) (.tmp 6) 27 65 (.agg #[.string ⟨#[]⟩, .string ⟨#[]⟩]) 32 rfl Tryd.underlying27 info65 rfl (by decide) (by omega) _ [] l0 (some ad) l0.length c0 (fun _ => True) (fun _ => False) rfl rfl hE.out (Kd.C_below HR.out (below_alloc (Below.refl _ _) _)) (fun x cs hx => k65_KM hx) (fun _ hk => hk.elim) (fun _ _ => trivial) (below_alloc (Below.refl _ _) _) ?hb ?hl ?_; (case hb => simp); (case hl => (have := HL.out; simp; omega)); intro v1 w1 hR1 hB1 hg_ ho_; rw [List.nil_append] at hR1; have HR1 := Aside0.mk hR1; have HB1 := Aside0.mk hB1; clear hR1 hB1 hg_ ho_)
    go_ret
    exact ⟨_, rfl, HR1.out, HB1.out⟩
set_option maxHeartbeats 2000000 in
theorem cmpJ.calls (A B A' : Option Addr) (c e0 n m n' c' : Nat) (a b : List S65) (w : World) (hn : a.length = n) (hm : b.length = m) (hr : Kd.C k65 w A n a) (hs : Kd.C k65 w B m b) (hl : n ≤ 1000000) :
    Calls Tryd.prog 50 #[.agg #[.slice A n c, .slice A' n' c'], .slice B m e0] w fun e w' => e = .returned (.int .i64 (cmpL a b)) ∧ Below w.heap.size w w' := by
  have HC := Aside0.mk (fun (W : World) (hb : Below w.heap.size w W) => cmpL.calls A B c e0 n m a b W hn hm (Kd.C_below hr hb) (Kd.C_below hs hb) hl)
  clear hn hm hr hs
  go_enter Tryd.func50, Tryd.ntmps50
  have HB := Aside0.mk (below_alloc (Below.refl w.heap.size w) (.cells #[.slice A n c, .slice A' n' c'] 60 (0, 0)))
  go_wp2_with (first | (go_at_call 40; (with_reducible refine (HC.out _ HB.out).mono ?_); rintro e w1 ⟨rfl, hb⟩; have HB1 := Aside0.mk (below_step HB.out hb); clear hb))
  go_ret
  exact ⟨rfl, HB1.out⟩
def SrtL (l : List S60) : Prop := l.Pairwise (fun x y => cmpL x.f0 y.f0 < 0)
def posB (l : List S60) (t : List S65) : Nat := (l.takeWhile (fun x => decide (cmpL x.f0 t < 0))).length
theorem posB_le (l : List S60) (t : List S65) : posB l t ≤ l.length := (List.takeWhile_sublist _).length_le
theorem posB_lt : ∀ (l : List S60) (t : List S65) (i : Nat), i < posB l t → cmpL (rd_T60 l (i : Int)).f0 t < 0
  | [], t, i, h => by simp [posB] at h
  | x :: l, t, i, h => by
    unfold posB at h
    rw [List.takeWhile_cons] at h
    split at h
    · rename_i hx
      cases i with
      | zero => exact of_decide_eq_true hx
      | succ i => exact posB_lt l t i (by rw [List.length_cons] at h; unfold posB; omega)
    · simp at h
theorem posB_at : ∀ (l : List S60) (t : List S65), posB l t < l.length → ¬ cmpL (rd_T60 l (posB l t : Int)).f0 t < 0
  | [], t, h => by simp [posB] at h
  | x :: l, t, h => by
    unfold posB at h ⊢
    rw [List.takeWhile_cons] at h ⊢
    by_cases hx : cmpL x.f0 t < 0
    · rw [if_pos (decide_eq_true hx)] at h ⊢
      have := posB_at l t (by rw [List.length_cons, List.length_cons] at h; unfold posB; omega)
      unfold posB at this
      rw [List.length_cons]
      exact this
    · rw [if_neg (by simp [hx])]
      exact hx
theorem SrtL_get {l : List S60} (h : SrtL l) {i j : Nat} (hij : i < j) (hj : j < l.length) : cmpL (rd_T60 l (i : Int)).f0 (rd_T60 l (j : Int)).f0 < 0 := by
  have := List.pairwise_iff_getElem.1 h i j (by omega) hj hij
  simpa [rd_T60, List.getD_eq_getElem?_getD, List.getElem?_eq_getElem (show i < l.length by omega), List.getElem?_eq_getElem hj] using this
theorem posB_eq {l : List S60} {t : List S65} {i : Nat} (hi : i ≤ l.length) (h1 : ∀ k, k < i → cmpL (rd_T60 l (k : Int)).f0 t < 0) (h2 : ∀ k, i ≤ k → k < l.length → ¬ cmpL (rd_T60 l (k : Int)).f0 t < 0) : posB l t = i := by
  rcases Nat.lt_trichotomy (posB l t) i with h | h | h
  · exact absurd (h1 _ h) (posB_at l t (by omega))
  · exact h
  · have := posB_le l t
    exact absurd (posB_lt l t i h) (h2 i (Nat.le_refl _) (by omega))
theorem SrtL_mono {l : List S60} (h : SrtL l) (t : List S65) {i j : Nat} (hij : i ≤ j) (hj : j < l.length) (hc : cmpL (rd_T60 l (j : Int)).f0 t < 0) : cmpL (rd_T60 l (i : Int)).f0 t < 0 := by
  rcases Nat.lt_or_eq_of_le hij with h1 | rfl
  · exact cmpL_trans _ _ _ (SrtL_get h h1 hj) hc
  · exact hc
set_option maxHeartbeats 4000000 in
set_option maxRecDepth 100000 in
theorem binSearch.calls (A B : Option Addr) (c e0 n m : Nat) (l : List S60) (b : List S65) (w : World) (hn : l.length = n) (hm : b.length = m) (hr : Kd.C k60 w A n l) (hs : Kd.C k65 w B m b) (hS : SrtL l) (hll : ∀ x ∈ l, x.f0.length ≤ 1000000) (hbig : n ≤ 1000000) :
    Calls Tryd.prog 49 #[.slice A n c, .slice B m e0, .func (.func 50) #[] #[]] w fun e w' => e = .returned (.tuple #[.int .i64 (posB l b), .bool (decide (posB l b < n) && decide (cmpL (rd_T60 l (posB l b : Int)).f0 b = 0))]) ∧ Below w.heap.size w w' := by
  subst hn hm
  have HR := Aside0.mk hr
  have HS := Aside0.mk hs
  have HSR := Aside0.mk hS
  have HLL : Aside0 (∀ i, i < l.length → (rd_T60 l (i : Int)).f0.length ≤ 1000000) := ⟨fun i hi => by
    refine hll _ ?_
    simp [rd_T60, List.getD_eq_getElem?_getD, List.getElem?_eq_getElem hi]⟩
  clear hr hs hS hll
  go_enter Tryd.func49, Tryd.ntmps49
  go_wp2
  go_loopg [9, 10] l.length (fun kx s9 s10 wr => ∃ i j : Nat, s9 = .int .i64 i ∧ s10 = .int .i64 j ∧ i ≤ j ∧ j ≤ l.length ∧ j - i ≤ kx ∧ Aside0 (Below w.heap.size w wr) ∧ Aside0 ((∀ k, k < i → cmpL (rd_T60 l (k : Int)).f0 b < 0) ∧ ∀ k, j ≤ k → k < l.length → ¬ cmpL (rd_T60 l (k : Int)).f0 b < 0))
  case atStart => exact ⟨0, l.length, rfl, rfl, Nat.zero_le _, Nat.le_refl _, by omega, ⟨Below.refl _ _⟩, ⟨fun k h => by omega, fun k h1 h2 => by omega⟩⟩
  case round =>
    obtain ⟨i, j, rfl, rfl, hij, hjl, hkx, HB, HI⟩ := hrel
    by_cases hlt : i < j
    · obtain ⟨h, hh⟩ : ∃ h, h = (i + j) / 2 := ⟨_, rfl⟩
      have C : ((i : Int) + (j : Int)) / 2 = (h : Int) := by omega
      have h1 : i ≤ h := by omega
      have h2 : h < j := by omega
      clear hh
      obtain ⟨ad, A0, c0, A1, c1, rfl, x0, x1, l0, g0, l1, g1⟩ := at_T60 (Kd.C_below HR.out HB.out) (h : Int) (by omega) (by omega)
      rw [Int.toNat_natCast] at x0 x1
      have HC := Aside0.mk (cmpJ.calls A0 B A1 c0 e0 _ _ (rd_T60 l (h : Int)).f1.length c1 (rd_T60 l (h : Int)).f0 b wr rfl rfl g0 (Kd.C_below HS.out HB.out) (HLL.out h (by omega)))
      have hhl : (h : Int) < (l.length : Int) := by omega
      clear l0 g0 l1 g1
      cases hv : decide (cmpL (rd_T60 l (h : Int)).f0 b < 0) with
      | true =>
        have HX := Aside0.mk (of_decide_eq_true hv)
        generalize (rd_T60 l (h : Int)).f0.length = q0 at x0 HC
        generalize (rd_T60 l (h : Int)).f1.length = q1 at x1 HC
        go_wp2_with (first | (go_at_call 50; (with_reducible refine HC.out.mono ?_); rintro e w1 ⟨rfl, hb⟩; have HB1 := Aside0.mk (below_step HB.out hb); clear hb))
        go_roundg (j - (h + 1))
        case measure => omega
        case rel => exact ⟨h + 1, j, by go_num, rfl, by omega, hjl, Nat.le_refl _, HB1, ⟨fun k hk => SrtL_mono HSR.out b (show k ≤ h by omega) (by omega) HX.out, HI.out.2⟩⟩
      | false =>
        have HX := Aside0.mk (of_decide_eq_false hv)
        generalize (rd_T60 l (h : Int)).f0.length = q0 at x0 HC
        generalize (rd_T60 l (h : Int)).f1.length = q1 at x1 HC
        go_wp2_with (first | (go_at_call 50; (with_reducible refine HC.out.mono ?_); rintro e w1 ⟨rfl, hb⟩; have HB1 := Aside0.mk (below_step HB.out hb); clear hb))
        go_roundg (h - i)
        case measure => omega
        case rel => exact ⟨i, h, rfl, rfl, h1, by omega, Nat.le_refl _, HB1, ⟨HI.out.1, by
          intro k hk1 hk2
          rcases Int.lt_or_le (cmpL (rd_T60 l (k : Int)).f0 b) 0 with hk3 | hk3
          · have h9 := SrtL_mono HSR.out b hk1 hk2 hk3
            have h8 := HX.out
            omega
          · omega⟩⟩
    · obtain rfl : i = j := by omega
      have HP : Aside0 (posB l b = i) := ⟨posB_eq hjl HI.out.1 HI.out.2⟩
      have hltz : ¬ (i : Int) < (i : Int) := by omega
      by_cases hil : i < l.length
      · have hilz : (i : Int) < (l.length : Int) := by omega
        obtain ⟨ad, A0, c0, A1, c1, rfl, x0, x1, l0, g0, l1, g1⟩ := at_T60 (Kd.C_below HR.out HB.out) (i : Int) (by omega) (by omega)
        rw [Int.toNat_natCast] at x0 x1
        have HC := Aside0.mk (cmpJ.calls A0 B A1 c0 e0 _ _ (rd_T60 l (i : Int)).f1.length c1 (rd_T60 l (i : Int)).f0 b wr rfl rfl g0 (Kd.C_below HS.out HB.out) (HLL.out i (by omega)))
        clear l0 g0 l1 g1
        generalize (rd_T60 l (i : Int)).f1.length = q1 at x1 HC
        generalize hz : cmpL (rd_T60 l (i : Int)).f0 b = z at HC
        have HZ := Aside0.mk hz
        clear hz
        generalize (rd_T60 l (i : Int)).f0.length = q0 at x0 HC
        go_wp2_with (first | (go_at_call 50; (with_reducible refine HC.out.mono ?_); rintro e w1 ⟨rfl, hb⟩; have HB1 := Aside0.mk (below_step HB.out hb); clear hb))
        refine bodyPost_ret (results_tmp2 rfl _ _ _) rfl ?_
        exact ⟨by rw [HP.out, HZ.out, decide_eq_true hil, Bool.true_and]; rfl, HB1.out⟩
      · have hilz : ¬ (i : Int) < (l.length : Int) := by omega
        go_wp2
        refine bodyPost_ret (results_tmp2 rfl _ _ _) rfl ?_
        exact ⟨by rw [HP.out, decide_eq_false hil, Bool.false_and]; rfl, HB.out⟩
end Go.Proofs.YtbgmnmjokdfmlaaDoor.PA
namespace Go.Proofs.YtbgmnmjokdfmlaaDoor.PA
open Go.RowKit Go.Proofs.YtbgmnmjokdfmlaaDoor.G Go.Proofs.YtbgmnmjokdfmlaaDoorW.PrintWords Go.Proofs.YtbgmnmjokdfmlaaDoorW.PrintLast Go.Proofs.YtbgmnmjokdfmlaaDoorW.PrintMore
set_option linter.unusedVariables false
set_option linter.unusedSimpArgs false
structure Rec where
  x : S60
  lv : Value
  sv : Value
def cellsR (r : Rec) : List Value := [r.lv, r.sv]
abbrev RL (w : World) (base : Nat) (v : Value) (l : List S65) : Prop := k65.R 65 w base (fun _ => True) v l
abbrev RS (w : World) (base : Nat) (v : Value) (l : List S54) : Prop := k54.R 54 w base (fun _ => True) v l
def Lay (w : World) (base : Nat) (v : Value) (rs : List Rec) : Prop :=
  RR w base v (rs.map cellsR) ∧ (∀ r ∈ rs, RL w base r.lv r.x.f0 ∧ RS w base r.sv r.x.f1) ∧ rs.Pairwise (fun a b => a.sv.ownBlock = none ∨ a.sv.ownBlock ≠ b.sv.ownBlock)
theorem keep_of {α : Type} {d : Kd α} {e : Nat} (hE : d.E = []) {w w' : World} {base : Nat} {u : Value} {l : List α} (h : d.R e w base (fun _ => True) u l) {row : Option Nat} (hg : w.grownBy w' row) (hne : u.ownBlock = none ∨ u.ownBlock ≠ row) : d.R e w' base (fun _ => True) u l :=
  Kd.R_mono (Kd.R_grown (Kd.R_tight hE h) hg (fun k hk he => by
    rcases hne with hn | hn
    · rw [hn] at hk; cases hk
    · exact hn (by rw [← hk, he]))) (fun _ _ => trivial)
theorem ne_type {α β : Type} {d : Kd α} {d' : Kd β} {e e' : Nat} (he : e ≠ e') {w : World} {base base' : Nat} {ok ok' : Nat → Prop} {u v : Value} {l : List α} {l' : List β} (h : d.R e w base ok u l) (h' : d'.R e' w base' ok' v l') : u.ownBlock = none ∨ u.ownBlock ≠ v.ownBlock := by
  cases hu : u.ownBlock with
  | none => exact .inl rfl
  | some k =>
    refine .inr fun hv => ?_
    obtain ⟨c1, h1⟩ := Kd.R_typed h k hu
    obtain ⟨c2, h2⟩ := Kd.R_typed h' k hv.symm
    rw [h1] at h2
    injection h2 with h2
    injection h2 with _ h2
    exact he h2
section
variable {w w' w1 : World} {base g cap : Nat} {v : Value} {rs : List Rec}
theorem Lay.below (h : Lay w base v rs) (hb : Below w.heap.size w w') : Lay w' base v rs :=
  ⟨Kd.R_below h.1 hb, fun r hr => ⟨Kd.R_below (h.2.1 r hr).1 hb, Kd.R_below (h.2.1 r hr).2 hb⟩, h.2.2⟩
theorem Lay.nil (w : World) (base : Nat) : Lay w base (.slice none 0 0) [] := ⟨Kd.R_nil _ _ _ _ _, (fun r hr => by cases hr), List.Pairwise.nil⟩
theorem Lay.reads (h : Lay w base v rs) : ∃ A c, v = .slice A rs.length c ∧ rs.length ≤ c ∧ k60.C w A rs.length (rs.map (·.x)) := by
  obtain ⟨A, c, hv, hc, hC⟩ := Kd.R_reads h.1
  rw [List.length_map] at hv hc hC
  refine ⟨A, c, hv, hc, by rw [List.length_map], hC.2.1, fun hn => ?_⟩
  obtain ⟨ad, hA, hj⟩ := hC.2.2 hn
  refine ⟨ad, hA, fun j p hp => ?_⟩
  rw [List.getElem?_map] at hp
  obtain ⟨r, hr, rfl⟩ := Option.map_eq_some_iff.1 hp
  obtain ⟨cs, h1, h2, h3⟩ := hj j (cellsR r) (by rw [List.getElem?_map, hr]; rfl)
  obtain ⟨k1, k2⟩ := h.2.1 r (List.mem_of_getElem? hr)
  obtain ⟨A0, c0, e0, l0, g0⟩ := Kd.R_reads k1
  obtain ⟨A1, c1, e1, l1, g1⟩ := Kd.R_reads k2
  refine ⟨cs, h1, ?_, h3⟩
  rw [h2.1]
  unfold cellsR
  rw [e0, e1]
  exact k60_mk w r.x l0 g0 l1 g1
theorem Lay.moved (h : Lay w base v rs) (hg : w.grownBy w' v.ownBlock) : ∀ r ∈ rs, RL w' base r.lv r.x.f0 ∧ RS w' base r.sv r.x.f1 := fun r hr =>
  ⟨keep_of rfl (h.2.1 r hr).1 hg (ne_type (by decide) (h.2.1 r hr).1 h.1), keep_of rfl (h.2.1 r hr).2 hg (ne_type (by decide) (h.2.1 r hr).2 h.1)⟩
theorem Lay.insert (h : Lay w base v rs) (hg : w.grownBy w' v.ownBlock) {v' : Value} (i : Nat) (r : Rec) (hR : RR w' base v' ((rs.map cellsR).take i ++ [cellsR r] ++ (rs.map cellsR).drop i)) (h1 : RL w' base r.lv r.x.f0) (h2 : RS w' base r.sv r.x.f1) (hn : r.sv.ownBlock = none) : Lay w' base v' (rs.take i ++ [r] ++ rs.drop i) := by
  refine ⟨by rw [List.map_append, List.map_append, List.map_take, List.map_drop]; exact hR, fun x hx => ?_, ?_⟩
  · rcases List.mem_append.1 hx with hx | hx
    · rcases List.mem_append.1 hx with hx | hx
      · exact h.moved hg x (List.mem_of_mem_take hx)
      · rw [List.mem_singleton] at hx
        subst hx
        exact ⟨h1, h2⟩
    · exact h.moved hg x (List.mem_of_mem_drop hx)
  · have hp := h.2.2
    rw [← List.take_append_drop i rs] at hp
    obtain ⟨p1, p2, p3⟩ := List.pairwise_append.1 hp
    refine List.pairwise_append.2 ⟨List.pairwise_append.2 ⟨p1, List.pairwise_singleton _ _, fun a ha b hb => ?_⟩, p2, fun a ha b hb => ?_⟩
    · rw [List.mem_singleton] at hb
      subst hb
      rw [hn]
      cases ho : a.sv.ownBlock with
      | none => exact .inl rfl
      | some k => exact .inr (by simp)
    · rcases List.mem_append.1 ha with ha | ha
      · exact p3 a ha b hb
      · rw [List.mem_singleton] at ha
        subst ha
        exact .inl hn
theorem rr_set {rows : List (List Value)} {n : Nat} (h : RR w base (.slice (some ⟨g, 0, none⟩) n cap) rows) (i : Nat) (hi : i < rows.length) (a u u' : Value) (hr : rows[i]? = some [a, u]) (h1 : u'.oneCell' = true) :
    RR (w.setCell ⟨g, i * 2 + 1, none⟩ u') base (.slice (some ⟨g, 0, none⟩) n cap) (rows.set i [a, u']) := by
  obtain ⟨ho, ht⟩ := rr_own h
  obtain ⟨hl, ho⟩ := ho
  have ht2 : Two (rows.set i [a, u']) := fun r hr2 => by
    rcases List.mem_or_eq_of_mem_set hr2 with hr2 | rfl
    · exact ht r hr2
    · refine ⟨rfl, fun x hx => ?_⟩
      simp only [List.mem_cons, List.not_mem_nil, or_false] at hx
      rcases hx with rfl | rfl
      · exact (ht _ (List.mem_of_getElem? hr)).2 _ (List.mem_cons_self ..)
      · exact h1
  have hfl : (rows.set i [a, u']).flatten = rows.flatten.set (i * 2 + 1) u' := by
    have e1 := (two_take rows i ht).1
    have e2 := (two_take rows (i + 1) ht).2
    have hrow : rows = rows.take i ++ [a, u] :: rows.drop (i + 1) := by
      rw [← List.getElem_of_getElem? hr |>.2, List.getElem_cons_drop, List.take_append_drop]
    have hlt : (rows.take i).flatten.length = i * 2 := by
      rw [← e1, List.length_take, hl]; omega
    rw [List.set_eq_take_append_cons_drop, if_pos hi, List.flatten_append, List.flatten_cons]
    conv => rhs; rw [hrow, List.flatten_append, List.flatten_cons]
    rw [List.set_append_right _ _ (by omega), hlt, show i * 2 + 1 - i * 2 = 1 from by omega]
    rfl
  rcases ho with ⟨hno, _⟩ | ⟨g', cap', cur, he, hb, hh, h2, h3, h4, h5⟩
  · cases hno
  · have he' : g = g' ∧ rows.length = n ∧ cap = cap' := by
      have := he
      simp only [Value.slice.injEq, Option.some.injEq, Addr.mk.injEq, and_true] at this
      exact ⟨this.1, this.2.1.symm, this.2.2⟩
    obtain ⟨rfl, hnn, rfl⟩ := he'
    refine own_rr (n := rows.length) ?_ (List.length_set) ht2
    rw [hfl, hnn]
    refine ⟨by rw [List.length_set, hl, hnn], .inr ⟨g, cap, cur.setIfInBounds (i * 2 + 1) u', rfl, hb, blk_set hh _ _, by omega, h3, by rw [Array.size_setIfInBounds]; exact h4, ?_⟩⟩
    rw [Array.toList_setIfInBounds, List.take_set, ← hnn, h5]
theorem Lay.samples {n : Nat} (h : Lay w base (.slice (some ⟨g, 0, none⟩) n cap) rs) (i : Nat) (r : Rec) (hr : rs[i]? = some r) (hg : w.grownBy w1 r.sv.ownBlock) {v1 : Value} {ss : List S54} (h1 : RS w1 base v1 ss) (hat : v1.ownBlock = r.sv.ownBlock ∨ ∃ b, v1.ownBlock = some b ∧ w.heap.size ≤ b) :
    Lay (w1.setCell ⟨g, i * 2 + 1, none⟩ v1) base (.slice (some ⟨g, 0, none⟩) n cap) (rs.set i ⟨⟨r.x.f0, ss⟩, r.lv, v1⟩) := by
  obtain ⟨hil, hri⟩ := List.getElem?_eq_some_iff.1 hr
  have hR1 : RR w1 base (.slice (some ⟨g, 0, none⟩) n cap) (rs.map cellsR) := keep_of rfl h.1 hg (ne_type (by decide) h.1 (h.2.1 r (List.mem_of_getElem? hr)).2)
  have hm : ∀ x ∈ rs, RL w1 base x.lv x.x.f0 := fun x hx => keep_of rfl (h.2.1 x hx).1 hg (ne_type (by decide) (h.2.1 x hx).1 (h.2.1 r (List.mem_of_getElem? hr)).2)
  have hap : ∀ j x, rs[j]? = some x → j ≠ i → x.sv.ownBlock = none ∨ x.sv.ownBlock ≠ r.sv.ownBlock := fun j x hx hj => by
    obtain ⟨hjl, hjx⟩ := List.getElem?_eq_some_iff.1 hx
    rcases Nat.lt_or_ge j i with hlt | hge
    · have := List.pairwise_iff_getElem.1 h.2.2 j i hjl hil hlt
      rw [hjx, hri] at this
      exact this
    · have := List.pairwise_iff_getElem.1 h.2.2 i j hil hjl (by omega)
      rw [hjx, hri] at this
      rcases this with h2 | h2
      · cases ho : x.sv.ownBlock with
        | none => exact .inl rfl
        | some k => exact .inr (by rw [h2]; simp)
      · exact .inr (Ne.symm h2)
  have hm2 : ∀ j x, rs[j]? = some x → j ≠ i → RS w1 base x.sv x.x.f1 := fun j x hx hj => keep_of rfl (h.2.1 x (List.mem_of_getElem? hx)).2 hg (hap j x hx hj)
  have hset : ∀ {α : Type} {d : Kd α} {e : Nat} {u : Value} {l : List α}, d.E = [] → e ≠ 60 → d.R e w1 base (fun _ => True) u l → d.R e (w1.setCell ⟨g, i * 2 + 1, none⟩ v1) base (fun _ => True) u l := fun hE he hx =>
    Kd.R_mono (Kd.R_step (Kd.R_tight hE hx) (fun k hk hlt => by
      have hne := ne_type he hx hR1
      exact Below.heap_setCell w1 ⟨g, i * 2 + 1, none⟩ v1 k (fun ek => by
        rcases hne with h2 | h2
        · rw [h2] at hk; cases hk
        · exact h2 (by rw [← hk, ek]; rfl)))) (fun _ _ => trivial)
  refine ⟨?_, fun x hx => ?_, ?_⟩
  · have := rr_set hR1 i (by rw [List.length_map]; exact hil) r.lv r.sv v1 (by rw [List.getElem?_map, hr]; rfl) (by obtain ⟨A, c, rfl⟩ := Kd.R_slice h1; rfl)
    rw [List.map_set]
    exact this
  · obtain ⟨j, hj⟩ := List.getElem?_of_mem hx
    rw [List.getElem?_set] at hj
    by_cases hji : i = j
    · rw [if_pos hji, if_pos hil] at hj
      injection hj with hj
      subst hj
      exact ⟨hset rfl (by decide) (hm r (List.mem_of_getElem? hr)), hset rfl (by decide) h1⟩
    · rw [if_neg hji] at hj
      exact ⟨hset rfl (by decide) (hm x (List.mem_of_getElem? hj)), hset rfl (by decide) (hm2 j x hj (fun e => hji e.symm))⟩
  · have hnew : ∀ j x, rs[j]? = some x → j ≠ i → x.sv.ownBlock = none ∨ x.sv.ownBlock ≠ v1.ownBlock := fun j x hx hj => by
      rcases hat with h2 | ⟨b, h2, hb⟩
      · rw [h2]; exact hap j x hx hj
      · cases ho : x.sv.ownBlock with
        | none => exact .inl rfl
        | some k =>
          refine .inr (fun e => ?_)
          rw [h2] at e
          injection e with e
          have := Kd.R_lt (h.2.1 x (List.mem_of_getElem? hx)).2 k ho
          omega
    rw [List.pairwise_iff_getElem]
    intro a b ha hb hab
    rw [List.length_set] at ha hb
    rw [List.getElem_set, List.getElem_set]
    by_cases ea : i = a
    · subst ea
      rw [if_pos rfl, if_neg (by omega)]
      rcases hnew b _ (List.getElem?_eq_getElem hb) (by omega) with h2 | h2
      · show v1.ownBlock = none ∨ _
        cases ho : v1.ownBlock with
        | none => exact .inl rfl
        | some k => exact .inr (by rw [h2]; simp)
      · exact .inr (Ne.symm h2)
    · rw [if_neg ea]
      by_cases eb : i = b
      · subst eb
        rw [if_pos rfl]
        exact hnew a _ (List.getElem?_eq_getElem ha) (by omega)
      · rw [if_neg eb]
        exact List.pairwise_iff_getElem.1 h.2.2 a b ha hb hab
theorem Lay.base_row (h : Lay w base v rs) : ∀ k, v.ownBlock = some k → base ≤ k := Kd.R_base h.1
theorem rr_cell {rows : List (List Value)} {n : Nat} (h : RR w base (.slice (some ⟨g, 0, none⟩) n cap) rows) (i : Nat) (a u : Value) (hr : rows[i]? = some [a, u]) :
    w.cell? ⟨g, i * 2, none⟩ = some a ∧ w.cell? ⟨g, i * 2 + 1, none⟩ = some u ∧ w.frozen? ⟨g, i * 2, none⟩ = false ∧ w.frozen? ⟨g, i * 2 + 1, none⟩ = false := by
  have hil : i < rows.length := (List.getElem?_eq_some_iff.1 hr).1
  obtain ⟨hn, _, hC⟩ := Kd.R_reads' h
  obtain ⟨ad, hA, hj⟩ := hC.2.2 (by omega)
  injection hA with hA
  subst hA
  obtain ⟨cs, h1, h2, h3⟩ := hj i _ hr
  have h2' : cs = [a, u] := h2.1
  subst h2'
  obtain ⟨g', cap', he, _, _, _, cur, hh, _⟩ := rr_form h (by omega)
  have hg : g = g' := by
    simp only [Value.slice.injEq, Option.some.injEq, Addr.mk.injEq, and_true] at he
    exact he.1
  subst hg
  have k0 := h3 0 a rfl
  have k1 := h3 1 u rfl
  rw [add_plain] at k0 k1
  exact ⟨k0, k1, blk_frozen hh _, blk_frozen hh _⟩
theorem lay_cell {n : Nat} (h : Lay w base (.slice (some ⟨g, 0, none⟩) n cap) rs) (i : Nat) (r : Rec) (hr : rs[i]? = some r) :
    w.cell? ⟨g, i * 2, none⟩ = some r.lv ∧ w.cell? ⟨g, i * 2 + 1, none⟩ = some r.sv ∧ w.frozen? ⟨g, i * 2, none⟩ = false ∧ w.frozen? ⟨g, i * 2 + 1, none⟩ = false :=
  rr_cell h.1 i r.lv r.sv (by rw [List.getElem?_map, hr]; rfl)
theorem lay_form (h : Lay w base v rs) (h0 : 0 < rs.length) : ∃ g cap, v = .slice (some ⟨g, 0, none⟩) rs.length cap ∧ base ≤ g := by
  obtain ⟨g, cap, he, _, _, hb, _⟩ := rr_form h.1 (by rw [List.length_map]; exact h0)
  rw [List.length_map] at he
  exact ⟨g, cap, he, hb⟩
end
end Go.Proofs.YtbgmnmjokdfmlaaDoor.PA
namespace Go.Proofs.YtbgmnmjokdfmlaaDoor.PA
open Go.Sort
set_option linter.unusedVariables false
set_option linter.unusedSimpArgs false
section
variable {α : Type} [Inhabited α]
def swR (d : Array α) (a b : Nat) : Nat → Array α
  | 0 => d
  | m + 1 => swp (swR d a b m) (a + m) (b + m)
theorem swR_size (d : Array α) (a b : Nat) : ∀ m, (swR d a b m).size = d.size
  | 0 => rfl
  | m + 1 => by rw [swR, size_swp, swR_size d a b m]
def sgm (a b n t : Nat) : Nat := if a ≤ t ∧ t < a + n then t + (b - a) else if b ≤ t ∧ t < b + n then t - (b - a) else t
theorem swR_get (d : Array α) (a b : Nat) : ∀ m, a + m ≤ b → b + m ≤ d.size → ∀ t, (swR d a b m)[t]! = d[sgm a b m t]!
  | 0, _, _, t => by
    rw [swR, show sgm a b 0 t = t from by unfold sgm; rw [if_neg (by omega), if_neg (by omega)]]
  | m + 1, h1, h2, t => by
    rw [swR, swp_get _ (by rw [swR_size]; omega) (by rw [swR_size]; omega), swR_get d a b m (by omega) (by omega), swR_get d a b m (by omega) (by omega), swR_get d a b m (by omega) (by omega)]
    by_cases e1 : t = b + m
    · rw [if_pos e1, show sgm a b m (a + m) = sgm a b (m + 1) t from by unfold sgm; (repeat' split) <;> omega]
    · rw [if_neg e1]
      by_cases e2 : t = a + m
      · rw [if_pos e2, show sgm a b m (b + m) = sgm a b (m + 1) t from by unfold sgm; (repeat' split) <;> omega]
      · rw [if_neg e2, show sgm a b m t = sgm a b (m + 1) t from by unfold sgm; (repeat' split) <;> omega]
def rho (a m b t : Nat) : Nat := if t < a then t else if t < a + (b - m) then m + (t - a) else if t < b then t - (b - m) else t
theorem rho_left (i j m t : Nat) (h : j < i) (hi : i ≤ m) : sgm (m - i) m j (rho (m - (i - j)) m (m + j) t) = rho (m - i) m (m + j) t := by
  unfold rho sgm
  (repeat' split) <;> omega
theorem rho_right (i j m t : Nat) (h : i < j) (hi : i ≤ m) : sgm (m - i) (m + j - i) i (rho (m - i) m (m + (j - i)) t) = rho (m - i) m (m + j) t := by
  unfold rho sgm
  (repeat' split) <;> omega
theorem rho_same (i m t : Nat) (hi : i ≤ m) : sgm (m - i) m i t = rho (m - i) m (m + i) t := by
  unfold rho sgm
  (repeat' split) <;> omega
theorem rho_none (a m b t : Nat) (h : a ≤ m) (h2 : m ≤ b) (h3 : a = m ∨ m = b) : rho a m b t = t := by
  unfold rho
  (repeat' split) <;> omega
def segA (d : Array α) (a b : Nat) : List α := (List.range' a (b - a)).map (d[·]!)
theorem seg_len (d : Array α) (a b : Nat) : (segA d a b).length = b - a := by simp [segA]
theorem seg_all (d : Array α) : segA d 0 d.size = d.toList := by
  apply List.ext_getElem
  · simp [segA]
  · intro i h1 h2
    simp [segA] at h1 ⊢
    rw [getElem!_pos d i (by simpa using h2)]
theorem seg_cat (d : Array α) {a b c : Nat} (h1 : a ≤ b) (h2 : b ≤ c) : segA d a c = segA d a b ++ segA d b c := by
  unfold segA
  rw [← List.map_append]
  congr 1
  have := List.range'_append_1 (s := a) (m := b - a) (n := c - b)
  rw [show a + (b - a) = b from by omega] at this
  rw [this, show b - a + (c - b) = c - a from by omega]
theorem seg_congr {d d' : Array α} {a b : Nat} (h : ∀ t, a ≤ t → t < b → d'[t]! = d[t]!) : segA d' a b = segA d a b := by
  unfold segA
  apply List.map_congr_left
  intro t ht
  rw [List.mem_range'_1] at ht
  exact h t ht.1 (by omega)
theorem seg_shift {d d' : Array α} {a b n : Nat} (h : ∀ t, t < n → d'[a + t]! = d[b + t]!) : segA d' a (a + n) = segA d b (b + n) := by
  apply List.ext_getElem
  · simp [segA]
  · intro i h1 h2
    simp [segA] at h1 ⊢
    exact h i h1
theorem mem_seg {d : Array α} {a b : Nat} {x : α} : x ∈ segA d a b ↔ ∃ t, a ≤ t ∧ t < b ∧ d[t]! = x := by
  unfold segA
  rw [List.mem_map]
  constructor
  · rintro ⟨t, h1, h2⟩
    rw [List.mem_range'_1] at h1
    exact ⟨t, h1.1, by omega, h2⟩
  · rintro ⟨t, h1, h2, h3⟩
    exact ⟨t, by rw [List.mem_range'_1]; omega, h3⟩
variable (key : α → Int)
def MG (d : Array α) (a b : Nat) (d' : Array α) : Prop := d'.size = d.size ∧ (∀ t, t < a ∨ b ≤ t → d'[t]! = d[t]!) ∧ ∀ v : Int, (segA d' a b).filter (fun x => decide (key x = v)) = (segA d a b).filter (fun x => decide (key x = v))
def Srt (d : Array α) (a b : Nat) : Prop := ∀ i j, a ≤ i → i < j → j < b → key d[i]! ≤ key d[j]!
variable {key}
theorem MG.refl (d : Array α) (a b : Nat) : MG key d a b d := ⟨rfl, fun _ _ => rfl, fun _ => rfl⟩
theorem MG.trans {d d' d'' : Array α} {a b : Nat} (h : MG key d a b d') (k : MG key d' a b d'') : MG key d a b d'' :=
  ⟨k.1.trans h.1, fun t ht => (k.2.1 t ht).trans (h.2.1 t ht), fun v => (k.2.2 v).trans (h.2.2 v)⟩
theorem MG.wide {d d' : Array α} {a b a' b' : Nat} (h : MG key d a b d') (h1 : a' ≤ a) (h2 : b ≤ b') (hab : a ≤ b) : MG key d a' b' d' := by
  refine ⟨h.1, fun t ht => h.2.1 t (by omega), fun v => ?_⟩
  rw [seg_cat d' h1 (by omega : a ≤ b'), seg_cat d' hab h2, seg_cat d h1 (by omega : a ≤ b'), seg_cat d hab h2]
  simp only [List.filter_append]
  rw [h.2.2 v, seg_congr (d' := d') (d := d) (fun t h3 h4 => h.2.1 t (.inl h4)), seg_congr (d' := d') (d := d) (fun t h3 h4 => h.2.1 t (.inr h3))]
theorem MG.from_ {d d' : Array α} {a b : Nat} (h : MG key d a b d') (t : Nat) (h1 : a ≤ t) (h2 : t < b) : ∃ s, a ≤ s ∧ s < b ∧ d[s]! = d'[t]! := by
  have hm : d'[t]! ∈ (segA d' a b).filter (fun x => decide (key x = key d'[t]!)) := List.mem_filter.2 ⟨mem_seg.2 ⟨t, h1, h2, rfl⟩, by simp⟩
  rw [h.2.2] at hm
  exact mem_seg.1 (List.mem_filter.1 hm).1
theorem MG.rot {d d' : Array α} {a m b : Nat} (hs : d'.size = d.size) (h1 : a ≤ m) (h2 : m ≤ b) (hr : ∀ t, d'[t]! = d[rho a m b t]!) (hk : ∀ i j, a ≤ i → i < m → m ≤ j → j < b → key d[j]! < key d[i]!) : MG key d a b d' := by
  refine ⟨hs, fun t ht => by rw [hr, show rho a m b t = t from by unfold rho; (repeat' split) <;> omega], fun v => ?_⟩
  have e1 : segA d' a (a + (b - m)) = segA d m (m + (b - m)) := seg_shift (fun t ht => by rw [hr, show rho a m b (a + t) = m + t from by unfold rho; (repeat' split) <;> omega])
  have e2 : segA d' (a + (b - m)) (a + (b - m) + (m - a)) = segA d a (a + (m - a)) := seg_shift (fun t ht => by rw [hr, show rho a m b (a + (b - m) + t) = a + t from by unfold rho; (repeat' split) <;> omega])
  rw [show m + (b - m) = b from by omega] at e1
  rw [show a + (b - m) + (m - a) = b from by omega, show a + (m - a) = m from by omega] at e2
  rw [seg_cat d' (by omega : a ≤ a + (b - m)) (by omega : a + (b - m) ≤ b), e1, e2, seg_cat d h1 h2, List.filter_append, List.filter_append]
  by_cases hA : ∃ x ∈ segA d a m, key x = v
  · obtain ⟨x, hx, hv⟩ := hA
    obtain ⟨i, i1, i2, rfl⟩ := mem_seg.1 hx
    have : (segA d m b).filter (fun x => decide (key x = v)) = [] := by
      rw [List.filter_eq_nil_iff]
      intro y hy
      obtain ⟨j, j1, j2, rfl⟩ := mem_seg.1 hy
      have := hk i j i1 i2 j1 j2
      simp
      omega
    rw [this]
    simp
  · have : (segA d a m).filter (fun x => decide (key x = v)) = [] := by
      rw [List.filter_eq_nil_iff]
      intro y hy
      simp
      exact fun e => hA ⟨y, hy, e⟩
    rw [this]
    simp
theorem MG.nb {d : Array α} {i : Nat} (hi : i + 1 < d.size) (hk : key d[i + 1]! < key d[i]!) : MG key d i (i + 2) (swp d i (i + 1)) := by
  refine MG.rot (m := i + 1) (size_swp _ _ _) (by omega) (by omega) (fun t => ?_) (fun p q h1 h2 h3 h4 => ?_)
  · rw [swp_get d (by omega) hi]
    by_cases e1 : t = i + 1
    · rw [if_pos e1, show rho i (i + 1) (i + 2) t = i from by unfold rho; (repeat' split) <;> omega]
    · rw [if_neg e1]
      by_cases e2 : t = i
      · rw [if_pos e2, show rho i (i + 1) (i + 2) t = i + 1 from by unfold rho; (repeat' split) <;> omega]
      · rw [if_neg e2, show rho i (i + 1) (i + 2) t = t from by unfold rho; (repeat' split) <;> omega]
  · obtain rfl : p = i := by omega
    obtain rfl : q = p + 1 := by omega
    exact hk
theorem swp_comm' (d : Array α) {i j : Nat} (hi : i < d.size) (hj : j < d.size) : swp d i j = swp d j i := by
  apply Array.ext
  · simp [size_swp]
  · intro t h1 h2
    have := swp_get d hi hj t
    have h := swp_get d hj hi t
    rw [getElem!_pos _ t h1] at this
    rw [getElem!_pos _ t h2] at h
    rw [this, h]
    by_cases e1 : t = j <;> by_cases e2 : t = i <;> simp_all
variable {lt : α → α → Bool}
theorem insInner_MG (hlt : ∀ x y, lt x y = true → key x < key y) (a : Nat) : ∀ j (d : Array α), a ≤ j → j < d.size → MG key d a (j + 1) (insInner lt a j d)
  | 0, d, _, _ => by rw [insInner]; exact MG.refl _ _ _
  | j + 1, d, h, hj => by
    rw [insInner]
    split
    · rename_i hc
      simp only [Bool.and_eq_true, decide_eq_true_eq] at hc
      have h1 : MG key d j (j + 2) (swp d (j + 1) j) := by
        rw [swp_comm' d hj (by omega)]
        exact MG.nb hj (hlt _ _ hc.2)
      have h2 := insInner_MG hlt a j (swp d (j + 1) j) (by omega) (by rw [size_swp]; omega)
      exact (h1.wide (by omega) (by omega) (by omega)).trans (h2.wide (Nat.le_refl _) (by omega) (by omega))
    · exact MG.refl _ _ _
theorem insInner_size (a : Nat) : ∀ j (d : Array α), (insInner lt a j d).size = d.size
  | 0, d => by rw [insInner]
  | j + 1, d => by
    rw [insInner]
    split
    · rw [insInner_size a j, size_swp]
    · rfl
theorem insOuter_MG (hlt : ∀ x y, lt x y = true → key x < key y) (a b : Nat) : ∀ n i (d : Array α), b - i = n → a ≤ i → i ≤ b → b ≤ d.size → MG key d a b (insOuter lt a b i d)
  | 0, i, d, hn, h1, h2, h3 => by
    rw [insOuter, if_neg (by omega)]
    exact MG.refl _ _ _
  | n + 1, i, d, hn, h1, h2, h3 => by
    rw [insOuter, if_pos (by omega)]
    have k1 := insInner_MG hlt a i d h1 (by omega)
    have k2 := insOuter_MG hlt a b n (i + 1) (insInner lt a i d) (by omega) (by omega) (by omega) (by rw [insInner_size]; omega)
    exact (k1.wide (Nat.le_refl _) (by omega) (by omega)).trans k2
theorem ins_MG (hlt : ∀ x y, lt x y = true → key x < key y) (d : Array α) (a b : Nat) (hab : a ≤ b) (hb : b ≤ d.size) : MG key d a b (insertionSort lt d a b) := by
  unfold insertionSort
  by_cases h : a + 1 ≤ b
  · exact insOuter_MG hlt a b _ (a + 1) d rfl (by omega) h hb
  · rw [insOuter, if_neg (by omega)]
    exact MG.refl _ _ _
theorem ins_Srt (hlt : ∀ x y, lt x y = true ↔ key x < key y) (d : Array α) (a b : Nat) (hab : a ≤ b) (hb : b ≤ d.size) : Srt key (insertionSort lt d a b) a b := by
  have hf : ∀ x y, lt x y = false ↔ key y ≤ key x := fun x y => by
    rw [← Bool.not_eq_true, hlt]; omega
  have hS : SWO lt := ⟨fun x => by rw [hf]; omega, fun x y z h1 h2 => by rw [hlt] at *; omega, fun x y z h1 h2 => by rw [hf] at *; omega⟩
  have := (insertionSort_holds hS d a b hab hb).2
  intro i j h1 h2 h3
  exact (hf _ _).1 (this i j h1 h2 h3)
theorem merge_done {d d1 d2 d3 : Array α} {a s m e b q : Nat} (hb : b ≤ d.size) (h1 : a ≤ s) (h2 : s ≤ m) (h3 : m ≤ e) (h4 : e ≤ b) (hq : q = s + (e - m)) (hA : Srt key d a m) (hB : Srt key d m b) (hs1 : d1.size = d.size) (hr : ∀ t, d1[t]! = d[rho s m e t]!)
    (hL : a < s → e < b → key d[s - 1]! ≤ key d[e]!) (hR : s < m → m < e → key d[e - 1]! < key d[s]!) (k2 : MG key d1 a q d2) (s2 : Srt key d2 a q) (k3 : MG key d2 q b d3) (s3 : Srt key d3 q b) : MG key d a b d3 ∧ Srt key d3 a b := by
  have hAA : ∀ i j, a ≤ i → i ≤ j → j < m → key d[i]! ≤ key d[j]! := fun i j x y z => by
    rcases Nat.lt_or_eq_of_le y with y | rfl
    · exact hA i j x y z
    · exact Int.le_refl _
  have hBB : ∀ i j, m ≤ i → i ≤ j → j < b → key d[i]! ≤ key d[j]! := fun i j x y z => by
    rcases Nat.lt_or_eq_of_le y with y | rfl
    · exact hB i j x y z
    · exact Int.le_refl _
  have k1 : MG key d s e d1 := MG.rot hs1 h2 h3 hr (fun i j x1 x2 x3 x4 => by
    have := hR (by omega) (by omega)
    have y1 := hAA s i h1 x1 x2
    have y2 := hBB j (e - 1) x3 (by omega) (by omega)
    omega)
  refine ⟨(k1.wide h1 h4 (by omega)).trans ((k2.wide (Nat.le_refl _) (by omega) (by omega)).trans (k3.wide (by omega) (Nat.le_refl _) (by omega))), fun i j x1 x2 x3 => ?_⟩
  have cross : ∀ p r, a ≤ p → p < q → q ≤ r → r < b → key d1[p]! ≤ key d1[r]! := fun p r y1 y2 y3 y4 => by
    rw [hr p, hr r]
    by_cases c1 : p < s
    · rw [show rho s m e p = p from by unfold rho; rw [if_pos c1]]
      by_cases c2 : r < e
      · rw [show rho s m e r = r - (e - m) from by unfold rho; rw [if_neg (by omega), if_neg (by omega), if_pos c2]]
        exact hAA _ _ y1 (by omega) (by omega)
      · rw [show rho s m e r = r from by unfold rho; rw [if_neg (by omega), if_neg (by omega), if_neg c2]]
        have z1 := hL (by omega) (by omega)
        have z2 := hAA p (s - 1) y1 (by omega) (by omega)
        have z3 := hBB e r (by omega) (by omega) y4
        omega
    · rw [show rho s m e p = m + (p - s) from by unfold rho; rw [if_neg c1, if_pos (by omega)]]
      by_cases c2 : r < e
      · rw [show rho s m e r = r - (e - m) from by unfold rho; rw [if_neg (by omega), if_neg (by omega), if_pos c2]]
        have z1 := hR (by omega) (by omega)
        have z2 := hBB (m + (p - s)) (e - 1) (by omega) (by omega) (by omega)
        have z3 := hAA s (r - (e - m)) h1 (by omega) (by omega)
        omega
      · rw [show rho s m e r = r from by unfold rho; rw [if_neg (by omega), if_neg (by omega), if_neg c2]]
        exact hBB _ _ (by omega) (by omega) y4
  by_cases c1 : j < q
  · rw [k3.2.1 i (.inl (by omega)), k3.2.1 j (.inl c1)]
    exact s2 i j x1 x2 c1
  · by_cases c2 : q ≤ i
    · exact s3 i j c2 x2 x3
    · rw [k3.2.1 i (.inl (by omega))]
      obtain ⟨p, p1, p2, p3⟩ := k2.from_ i x1 (by omega)
      obtain ⟨r, r1, r2, r3⟩ := k3.from_ j (by omega) x3
      rw [k2.2.1 r (.inr r1)] at r3
      rw [← p3, ← r3]
      exact cross p r p1 p2 r1 r2
theorem one_left {d d1 : Array α} {a i b : Nat} (hb : b ≤ d.size) (h1 : a + 1 ≤ i) (h2 : i ≤ b) (hB : Srt key d (a + 1) b) (hs1 : d1.size = d.size) (hr : ∀ t, d1[t]! = d[rho a (a + 1) i t]!) (hL : a + 1 < i → key d[i - 1]! < key d[a]!) (hR : i < b → key d[a]! ≤ key d[i]!) : MG key d a b d1 ∧ Srt key d1 a b := by
  have k := merge_done (key := key) (d := d) (d1 := d1) (d2 := d1) (d3 := d1) (a := a) (s := a) (m := a + 1) (e := i) (b := b) (q := a + (i - (a + 1))) hb (Nat.le_refl _) (by omega) h1 h2 rfl (fun i j _ _ _ => by omega) hB hs1 hr (fun h => by omega) (fun _ h => hL h) (MG.refl _ _ _) (fun x y x1 x2 x3 => ?_) (MG.refl _ _ _) (fun x y x1 x2 x3 => ?_)
  · exact k
  · rw [hr, hr, show rho a (a + 1) i x = a + 1 + (x - a) from by unfold rho; rw [if_neg (by omega), if_pos (by omega)], show rho a (a + 1) i y = a + 1 + (y - a) from by unfold rho; rw [if_neg (by omega), if_pos (by omega)]]
    exact hB _ _ (by omega) (by omega) (by omega)
  · rw [hr, hr, show rho a (a + 1) i y = y from by unfold rho; rw [if_neg (by omega), if_neg (by omega), if_neg (by omega)]]
    by_cases c : x < i
    · rw [show rho a (a + 1) i x = a from by unfold rho; (repeat' split) <;> omega]
      rcases Nat.eq_or_lt_of_le (show i ≤ y from by omega) with rfl | c2
      · exact hR (by omega)
      · have := hR (by omega)
        have := hB i y (by omega) c2 x3
        omega
    · rw [show rho a (a + 1) i x = x from by unfold rho; rw [if_neg (by omega), if_neg (by omega), if_neg (by omega)]]
      exact hB _ _ (by omega) x2 x3
theorem one_right {d d1 : Array α} {a i m : Nat} (hb : m + 1 ≤ d.size) (h1 : a ≤ i) (h2 : i ≤ m) (hA : Srt key d a m) (hs1 : d1.size = d.size) (hr : ∀ t, d1[t]! = d[rho i m (m + 1) t]!) (hL : a < i → key d[i - 1]! ≤ key d[m]!) (hR : i < m → key d[m]! < key d[i]!) : MG key d a (m + 1) d1 ∧ Srt key d1 a (m + 1) := by
  have k := merge_done (key := key) (d := d) (d1 := d1) (d2 := d1) (d3 := d1) (a := a) (s := i) (m := m) (e := m + 1) (b := m + 1) (q := i + 1) hb h1 h2 (by omega) (Nat.le_refl _) (by omega) hA (fun i j _ _ _ => by omega) hs1 hr (fun _ h => by omega) (fun h _ => hR h) (MG.refl _ _ _) (fun x y x1 x2 x3 => ?_) (MG.refl _ _ _) (fun x y x1 x2 x3 => ?_)
  · exact k
  · rw [hr, hr, show rho i m (m + 1) x = x from by unfold rho; rw [if_pos (by omega)]]
    by_cases c : y < i
    · rw [show rho i m (m + 1) y = y from by unfold rho; rw [if_pos c]]
      exact hA _ _ x1 x2 (by omega)
    · rw [show rho i m (m + 1) y = m from by unfold rho; rw [if_neg c, if_pos (by omega)]; omega]
      rcases Nat.eq_or_lt_of_le (show x + 1 ≤ i from by omega) with c2 | c2
      · have := hL (by omega)
        rw [show i - 1 = x from by omega] at this
        exact this
      · have := hL (by omega)
        have := hA x (i - 1) x1 (by omega) (by omega)
        omega
  · rw [hr, hr, show rho i m (m + 1) x = x - 1 from by unfold rho; rw [if_neg (by omega), if_neg (by omega), if_pos (by omega)]; omega, show rho i m (m + 1) y = y - 1 from by unfold rho; rw [if_neg (by omega), if_neg (by omega), if_pos (by omega)]; omega]
    exact hA _ _ (by omega) (by omega) (by omega)
end
end Go.Proofs.YtbgmnmjokdfmlaaDoor.PA
namespace Go.Proofs.YtbgmnmjokdfmlaaDoor.PA
open Go.Shelf Go.RowKit Go.Lib Go.Sort
set_option linter.unusedVariables false
set_option linter.unusedSimpArgs false
instance : Inhabited S54 := ⟨z54⟩
def encJ (x : S54) : List Value := [.int .i64 x.f0, .int .u64 x.f1]
theorem encJ_len (x : S54) : (encJ x).length = 2 := rfl
theorem encJ_one (x : S54) : ∀ v ∈ encJ x, v.oneCell' = true := by
  intro v hv
  simp only [encJ, List.mem_cons, List.not_mem_nil, or_false] at hv
  rcases hv with rfl | rfl <;> rfl
section
variable {w0 W : World} {blk off : Nat} {d0 dk : Array S54}
theorem swk_cell (h : SWK encJ 2 w0 blk off dk W) (R : RowK encJ 2 w0 blk off d0) (hs : dk.size = d0.size) (i : Nat) (hi : i < dk.size) :
    W.cell? ⟨blk, off + i * 2, none⟩ = some (.int .i64 dk[i]!.f0) ∧ W.cell? ⟨blk, off + i * 2 + 1, none⟩ = some (.int .u64 dk[i]!.f1) ∧ W.frozen? ⟨blk, off + i * 2, none⟩ = false ∧ W.frozen? ⟨blk, off + i * 2 + 1, none⟩ = false := by
  have H := h.holds R.hblk R.hH hs
  have h0 := HoldsK.cell H (c := 0) hi (by omega)
  have h1 := HoldsK.cell H (c := 1) hi (by omega)
  exact ⟨h0.1, h1.1, h0.2, h1.2⟩
def exch (W : World) (blk off i j : Nat) (x y : S54) : World := ((((W.setCell ⟨blk, off + i * 2, none⟩ (.int .i64 x.f0)).setCell ⟨blk, off + i * 2 + 1, none⟩ (.int .u64 x.f1)).setCell ⟨blk, off + j * 2, none⟩ (.int .i64 y.f0)).setCell ⟨blk, off + j * 2 + 1, none⟩ (.int .u64 y.f1)).drew
theorem exch_eq (W : World) (blk off i j : Nat) (x y : S54) : ((((W.setCell ⟨blk, off + i * 2, none⟩ (.int .i64 x.f0)).setCell ⟨blk, off + i * 2 + 1, none⟩ (.int .u64 x.f1)).setCell ⟨blk, off + j * 2, none⟩ (.int .i64 y.f0)).setCell ⟨blk, off + j * 2 + 1, none⟩ (.int .u64 y.f1)).drew = exch W blk off i j x y := rfl
theorem swk_swap (h : SWK encJ 2 w0 blk off dk W) (R : RowK encJ 2 w0 blk off d0) (i j : Nat) (hi : i < dk.size) (hj : j < dk.size) : SWK encJ 2 w0 blk off (swp dk i j) (exch W blk off i j dk[j]! dk[i]!) := h.swapped R i j hi hj
theorem swk_second (h : SWK encJ 2 w0 blk off dk W) (R : RowK encJ 2 w0 blk off d0) (hs : dk.size = d0.size) (i j : Nat) (hij : i ≠ j) (hj : j < dk.size) (u v : Value) :
    ((W.setCell ⟨blk, off + i * 2, none⟩ u).setCell ⟨blk, off + i * 2 + 1, none⟩ v).drew.cell? ⟨blk, off + j * 2, none⟩ = some (.int .i64 dk[j]!.f0) ∧ ((W.setCell ⟨blk, off + i * 2, none⟩ u).setCell ⟨blk, off + i * 2 + 1, none⟩ v).drew.cell? ⟨blk, off + j * 2 + 1, none⟩ = some (.int .u64 dk[j]!.f1) := by
  obtain ⟨q0, q1, _, _⟩ := swk_cell h R hs j hj
  constructor
  · show ((W.setCell _ u).setCell _ v).cell? _ = _
    rw [World.cell?_setCell_other _ _ _ _ (by intro e; injection e with _ e _; omega), World.cell?_setCell_other _ _ _ _ (by intro e; injection e with _ e _; omega)]; exact q0
  · show ((W.setCell _ u).setCell _ v).cell? _ = _
    rw [World.cell?_setCell_other _ _ _ _ (by intro e; injection e with _ e _; omega), World.cell?_setCell_other _ _ _ _ (by intro e; injection e with _ e _; omega)]; exact q1
theorem swk_cmp {cf : S54 → S54 → Int} {g : Nat} (h : SWK encJ 2 w0 blk off dk W) (hC : CmpLays Tryd.prog g #[] encJ 2 cf blk off d0.size w0) (hs : dk.size = d0.size) (x y : S54) (n : Nat) (os : Array Obj) :
    Calls Tryd.prog g #[.agg #[.int .i64 x.f0, .int .u64 x.f1], .agg #[.int .i64 y.f0, .int .u64 y.f1]] (grow (W.drewN n) os) fun e w' => e = .returned (.int .i64 (cf x y)) ∧ ∃ q os', w' = grow ((grow (W.drewN n) os).drewN q) os' :=
  h.cmp hC hs x y n os
theorem swk_gcell (h : SWK encJ 2 w0 blk off dk W) (R : RowK encJ 2 w0 blk off d0) (hs : dk.size = d0.size) (i : Nat) (hi : i < dk.size) (n : Nat) (os : Array Obj) :
    (grow (W.drewN n) os).cell? ⟨blk, off + i * 2, none⟩ = some (.int .i64 dk[i]!.f0) ∧ (grow (W.drewN n) os).cell? ⟨blk, off + i * 2 + 1, none⟩ = some (.int .u64 dk[i]!.f1) :=
  ⟨(swk_cell (h.grown n os) R hs i hi).1, (swk_cell (h.grown n os) R hs i hi).2.1⟩
end
end Go.Proofs.YtbgmnmjokdfmlaaDoor.PA
namespace Go.Proofs.YtbgmnmjokdfmlaaDoor.PA
open Go.Shelf Go.RowKit Go.Lib Go.Sort
set_option linter.unusedVariables false
set_option linter.unusedSimpArgs false
set_option maxHeartbeats 4000000 in
set_option maxRecDepth 1000000 in
theorem swapRange.calls (g : Nat) (blk off cap a b n : Nat) (d0 d : Array S54) (w0 w : World) (R : RowK encJ 2 w0 blk off d0) (hs : d0.size = d.size) (S : SWK encJ 2 w0 blk off d w) (ha : a + n ≤ b) (hb : b + n ≤ d.size) (hsz : d.size < 4611686018427387904) :
    Calls Tryd.prog 124 #[.slice (some ⟨blk, off, none⟩) d.size cap, .int .i64 a, .int .i64 b, .int .i64 n, .func (.func g) #[] #[]] w fun e w' => e = .returned (.tuple #[]) ∧ SWK encJ 2 w0 blk off (swR d a b n) w' := by
  have mixed : Tryd.prog.follows .mixedOrders = true := by kernel_rfl
  have S0 : Aside (SWK encJ 2 w0 blk off d w) := S
  clear S
  go_enter Tryd.func124, Tryd.ntmps124
  go_wp2
  go_loopg [10] n (fun kx s wr => ∃ (m : Nat), s = .int .i64 m ∧ m ≤ n ∧ n - m ≤ kx ∧ Aside (SWK encJ 2 w0 blk off (swR d a b m) wr))
  case atStart => exact ⟨0, rfl, by omega, by omega, S0⟩
  case round =>
    clear S0
    obtain ⟨m, rfl, hm, hkx, S1⟩ := hrel
    by_cases hlt : (m : Int) < (n : Int)
    · have hds := swR_size d a b m
      generalize hdk : swR d a b m = dk at S1 hds
      have ea44 : ((a : Int) + (m : Int)).toNat = a + m := by omega
      have pa44 : (0 : Int) ≤ (a : Int) + (m : Int) := by omega
      have ba44 : (a : Int) + (m : Int) < (d.size : Int) := by omega
      have ra44 : IntKind.i64.wrap ((a : Int) + (m : Int)) = (a : Int) + (m : Int) := by rw [IntKind.wrap_i64]; omega
      have ec44 : ((b : Int) + (m : Int)).toNat = b + m := by omega
      have pc44 : (0 : Int) ≤ (b : Int) + (m : Int) := by omega
      have bc44 : (b : Int) + (m : Int) < (d.size : Int) := by omega
      have rc44 : IntKind.i64.wrap ((b : Int) + (m : Int)) = (b : Int) + (m : Int) := by rw [IntKind.wrap_i64]; omega
      have S2 : Aside (SWK encJ 2 w0 blk off (swp dk (a + m) (b + m)) (exch wr blk off (a + m) (b + m) dk[b + m]! dk[a + m]!)) := swk_swap S1.out R (a + m) (b + m) (by omega) (by omega)
      obtain ⟨p0, p1, _, _⟩ := swk_cell S1.out.drew R (by omega) (a + m) (by omega)
      obtain ⟨q0, q1, _, _⟩ := swk_cell S1.out.drew R (by omega) (b + m) (by omega)
      obtain ⟨_, _, f2, f3⟩ := swk_cell S1.out R (by omega) (a + m) (by omega)
      obtain ⟨_, _, g2, g3⟩ := swk_cell S1.out R (by omega) (b + m) (by omega)
      have q3 := fun u v => (swk_second S1.out R (by omega) (a + m) (b + m) (by omega) (by omega) u v).1
      have q4 := fun u v => (swk_second S1.out R (by omega) (a + m) (b + m) (by omega) (by omega) u v).2
      generalize dk[a + m]! = X at *
      generalize dk[b + m]! = Y at *
      clear S1
      go_wp2_with fail
      go_big_region_o
      clear p0 p1 q0 q1 f2 f3 g2 g3 q3 q4
      rw [exch_eq]
      generalize exch wr blk off (a + m) (b + m) Y X = w2 at S2 ⊢
      have S3 : Aside (SWK encJ 2 w0 blk off (swR d a b (m + 1)) w2) := by rw [swR, hdk]; exact S2
      clear S2
      go_wp2
      go_roundg (n - (m + 1))
      case measure => omega
      case rel => exact ⟨m + 1, by go_num, by omega, Nat.le_refl _, S3⟩
    · obtain rfl : m = n := by omega
      go_wp2
      go_end0
      exact ⟨rfl, S1.out⟩
set_option maxHeartbeats 4000000 in
set_option maxRecDepth 1000000 in
theorem rotate.calls (g : Nat) (blk off cap a m b : Nat) (d0 d : Array S54) (w0 w : World) (R : RowK encJ 2 w0 blk off d0) (hs : d0.size = d.size) (S : SWK encJ 2 w0 blk off d w) (ha : a < m) (hm : m < b) (hb : b ≤ d.size) (hsz : d.size < 4611686018427387904) :
    Calls Tryd.prog 123 #[.slice (some ⟨blk, off, none⟩) d.size cap, .int .i64 a, .int .i64 m, .int .i64 b, .func (.func g) #[] #[]] w fun e w' => e = .returned (.tuple #[]) ∧ ∃ d', SWK encJ 2 w0 blk off d' w' ∧ d'.size = d.size ∧ ∀ t, d'[t]! = d[rho a m b t]! := by
  have mixed : Tryd.prog.follows .mixedOrders = true := by kernel_rfl
  have S0 : Aside (SWK encJ 2 w0 blk off d w) := S
  clear S
  go_enter Tryd.func123, Tryd.ntmps123
  go_wp2
  go_loopg [10, 11] b (fun kx s10 s11 wr => ∃ (i j : Nat) (dk : Array S54), s10 = .int .i64 i ∧ s11 = .int .i64 j ∧ 0 < i ∧ 0 < j ∧ i ≤ m ∧ m + j ≤ d.size ∧ i + j ≤ kx ∧ dk.size = d.size ∧ Aside (SWK encJ 2 w0 blk off dk wr) ∧ Aside (∀ t, dk[rho (m - i) m (m + j) t]! = d[rho a m b t]!))
  case atStart => exact ⟨m - a, b - m, d, by go_num, by go_num, by omega, by omega, by omega, by omega, by omega, rfl, S0, by show ∀ t, _; intro t; rw [show m - (m - a) = a from by omega, show m + (b - m) = b from by omega]⟩
  case round =>
    clear S0
    obtain ⟨i, j, dk, rfl, rfl, hi, hj, him, hmj, hkx, hds, S1, HR⟩ := hrel
    have rw1 : IntKind.i64.wrap ((m : Int) - (i : Int)) = ((m - i : Nat) : Int) := by rw [IntKind.wrap_i64]; omega
    have rw2 : (m : Int) - (i : Int) = ((m - i : Nat) : Int) := by omega
    by_cases hij : i = j
    · subst hij
      have hc := swapRange.calls g blk off cap (m - i) m i d0 dk w0 wr R (by omega) S1.out (by omega) (by omega) (by omega)
      rw [hds] at hc
      have HC := YtbgmnmjokdfmlaaDoorW.PrintWords.Aside0.mk hc
      clear hc
      go_wp2_with (first | (go_at_call 124; refine HC.out.mono ?_; rintro e w1 ⟨rfl, hS⟩; have S2 : Aside (SWK encJ 2 w0 blk off (swR dk (m - i) m i) w1) := hS; clear hS))
      go_end0
      refine ⟨rfl, _, S2.out, by rw [swR_size]; exact hds, fun t => ?_⟩
      rw [swR_get dk _ _ i (by omega) (by omega), rho_same i m t him]
      exact HR.out t
    · by_cases hlt : j < i
      · have hgz : (i : Int) > (j : Int) := by omega
        have hne : ¬ (i : Int) = (j : Int) := by omega
        have hc := swapRange.calls g blk off cap (m - i) m j d0 dk w0 wr R (by omega) S1.out (by omega) (by omega) (by omega)
        rw [hds] at hc
        have HC := YtbgmnmjokdfmlaaDoorW.PrintWords.Aside0.mk hc
        clear hc
        go_wp2_with (first | (go_at_call 124; refine HC.out.mono ?_; rintro e w1 ⟨rfl, hS⟩; have S2 : Aside (SWK encJ 2 w0 blk off (swR dk (m - i) m j) w1) := hS; clear hS))
        go_roundg (i + j - 1)
        case measure => omega
        case rel =>
          refine ⟨i - j, j, swR dk (m - i) m j, by go_num, rfl, by omega, hj, by omega, hmj, by omega, by rw [swR_size]; exact hds, S2, ?_⟩
          show ∀ t, _
          intro t
          rw [swR_get dk _ _ j (by omega) (by omega), rho_left i j m t hlt him]
          exact HR.out t
      · have hgz : ¬ (i : Int) > (j : Int) := by omega
        have hne : ¬ (i : Int) = (j : Int) := by omega
        have rw3 : (m : Int) + (j : Int) - (i : Int) = ((m + j - i : Nat) : Int) := by omega
        have hc := swapRange.calls g blk off cap (m - i) (m + j - i) i d0 dk w0 wr R (by omega) S1.out (by omega) (by omega) (by omega)
        rw [hds] at hc
        have HC := YtbgmnmjokdfmlaaDoorW.PrintWords.Aside0.mk hc
        clear hc
        go_wp2_with (first | (go_at_call 124; refine HC.out.mono ?_; rintro e w1 ⟨rfl, hS⟩; have S2 : Aside (SWK encJ 2 w0 blk off (swR dk (m - i) (m + j - i) i) w1) := hS; clear hS))
        go_roundg (i + j - 1)
        case measure => omega
        case rel =>
          refine ⟨i, j - i, swR dk (m - i) (m + j - i) i, rfl, by go_num, hi, by omega, him, by omega, by omega, by rw [swR_size]; exact hds, S2, ?_⟩
          show ∀ t, _
          intro t
          rw [swR_get dk _ _ i (by omega) (by omega), rho_right i j m t (by omega) him]
          exact HR.out t
end Go.Proofs.YtbgmnmjokdfmlaaDoor.PA
namespace Go.Proofs.YtbgmnmjokdfmlaaDoor.PA
open Go.Shelf Go.RowKit Go.Lib Go.Sort
set_option linter.unusedVariables false
set_option linter.unusedSimpArgs false
theorem rho_up {α : Type} [Inhabited α] {d dk : Array α} {a k : Nat} (hs : dk.size = d.size) (hk : k + 1 < d.size) (ha : a ≤ k) (h : ∀ t, dk[t]! = d[rho a (a + 1) (k + 1) t]!) : ∀ t, (swp dk k (k + 1))[t]! = d[rho a (a + 1) (k + 1 + 1) t]! := fun t => by
  rw [swp_get dk (by omega) (by omega), h, h, h]
  by_cases e1 : t = k + 1
  · rw [if_pos e1, show rho a (a + 1) (k + 1) k = rho a (a + 1) (k + 1 + 1) t from by unfold rho; (repeat' split) <;> omega]
  · rw [if_neg e1]
    by_cases e2 : t = k
    · rw [if_pos e2, show rho a (a + 1) (k + 1) (k + 1) = rho a (a + 1) (k + 1 + 1) t from by unfold rho; (repeat' split) <;> omega]
    · rw [if_neg e2, show rho a (a + 1) (k + 1) t = rho a (a + 1) (k + 1 + 1) t from by unfold rho; (repeat' split) <;> omega]
theorem rho_down {α : Type} [Inhabited α] {d dk : Array α} {m k : Nat} (hs : dk.size = d.size) (hk : k + 1 < d.size) (ha : k + 1 ≤ m) (h : ∀ t, dk[t]! = d[rho (k + 1) m (m + 1) t]!) : ∀ t, (swp dk (k + 1) k)[t]! = d[rho k m (m + 1) t]! := fun t => by
  rw [swp_get dk (by omega) (by omega), h, h, h]
  by_cases e1 : t = k
  · rw [if_pos e1, show rho (k + 1) m (m + 1) (k + 1) = rho k m (m + 1) t from by unfold rho; (repeat' split) <;> omega]
  · rw [if_neg e1]
    by_cases e2 : t = k + 1
    · rw [if_pos e2, show rho (k + 1) m (m + 1) k = rho k m (m + 1) t from by unfold rho; (repeat' split) <;> omega]
    · rw [if_neg e2, show rho (k + 1) m (m + 1) t = rho k m (m + 1) t from by unfold rho; (repeat' split) <;> omega]
def SymAt (g : Nat) (cf : S54 → S54 → Int) (key : S54 → Int) (blk off cap : Nat) (d0 : Array S54) (w0 : World) (n : Nat) : Prop :=
    ∀ (a m b : Nat) (d : Array S54) (w : World), b - a ≤ n → d.size = d0.size → SWK encJ 2 w0 blk off d w → a < m → m < b → b ≤ d0.size → Srt key d a m → Srt key d m b →
    Calls Tryd.prog 122 #[.slice (some ⟨blk, off, none⟩) d0.size cap, .int .i64 a, .int .i64 m, .int .i64 b, .func (.func g) #[] #[]] w fun e w' => e = .returned (.tuple #[]) ∧ ∃ d', SWK encJ 2 w0 blk off d' w' ∧ MG key d a b d' ∧ Srt key d' a b
set_option maxHeartbeats 16000000 in
set_option maxRecDepth 1000000 in
theorem symMerge.left (g : Nat) (cf : S54 → S54 → Int) (key : S54 → Int) (hcf : ∀ x y, cf x y < 0 ↔ key x < key y) (eg : ∀ args w, (callFunc g args).run Tryd.prog w = .ok (.enter g args) w)
    (blk off cap : Nat) (d0 : Array S54) (w0 : World) (R : RowK encJ 2 w0 blk off d0) (hC : CmpLays Tryd.prog g #[] encJ 2 cf blk off d0.size w0) (hsz : d0.size < 4611686018427387904)
    (a m b : Nat) (d : Array S54) (w : World) (hma : m = a + 1) (hs : d.size = d0.size) (S : SWK encJ 2 w0 blk off d w) (hm : a + 1 < b) (hb : b ≤ d0.size) (hB : Srt key d (a + 1) b) :
    Calls Tryd.prog 122 #[.slice (some ⟨blk, off, none⟩) d0.size cap, .int .i64 (a), .int .i64 (m), .int .i64 (b), .func (.func g) #[] #[]] w fun e w' => e = .returned (.tuple #[]) ∧ ∃ d', SWK encJ 2 w0 blk off d' w' ∧ MG key d a (b) d' ∧ Srt key d' a (b) := by
  have mixed : Tryd.prog.follows .mixedOrders = true := by kernel_rfl
  have S0 : Aside (SWK encJ 2 w0 blk off d w) := S
  have HC := YtbgmnmjokdfmlaaDoorW.PrintWords.Aside0.mk hC
  have HCF := YtbgmnmjokdfmlaaDoorW.PrintWords.Aside0.mk hcf
  have SB := YtbgmnmjokdfmlaaDoorW.PrintWords.Aside0.mk hB
  clear S hC hcf hB
  have h1z : (m : Int) - (a : Int) = 1 := by omega
  have m1 : m ≤ a + 1 := by omega
  have m2 : a + 1 ≤ m := by omega
  clear hma
  go_enter Tryd.func122, Tryd.ntmps122
  go_wp2
  go_loopg [10, 11] (b - m) (fun kx s10 s11 wr => ∃ (i j : Nat), s10 = .int .i64 i ∧ s11 = .int .i64 j ∧ a + 1 ≤ i ∧ i ≤ j ∧ j ≤ b ∧ j - i ≤ kx ∧ Aside (SWK encJ 2 w0 blk off d wr) ∧ Aside (a + 1 < i → key d[i - 1]! < key d[a]!) ∧ Aside (j < b → key d[a]! ≤ key d[j]!))
  case atStart => exact ⟨m, b, rfl, rfl, by omega, by omega, Nat.le_refl _, Nat.le_refl _, S0, (fun h => by omega), (fun h => by omega)⟩
  case round =>
    clear S0
    obtain ⟨i, j, rfl, rfl, hai, hij, hjb, hkx, S1, HL, HR⟩ := hrel
    by_cases hlt : i < j
    · have hltz : (i : Int) < (j : Int) := by omega
      have c0 := fun n' os' => (swk_gcell S1.out R hs ((i + j) / 2) (by omega) n' os').1
      have c1 := fun n' os' => (swk_gcell S1.out R hs ((i + j) / 2) (by omega) n' os').2
      have e0 := fun n' os' => (swk_gcell S1.out R hs a (by omega) n' os').1
      have e1 := fun n' os' => (swk_gcell S1.out R hs a (by omega) n' os').2
      have hc := fun n' os' => swk_cmp S1.out HC.out hs d[(i + j) / 2]! d[a]! n' os'
      have pa : (0 : Int) ≤ ((i : Int) + (j : Int)) / 2 := by omega
      have ba : ((i : Int) + (j : Int)) / 2 < (d0.size : Int) := by omega
      have ea : (((i : Int) + (j : Int)) / 2).toNat = (i + j) / 2 := by omega
      have b1 : (a : Int) < (d0.size : Int) := by omega
      cases hv : decide (cf d[(i + j) / 2]! d[a]! < 0) with
      | true =>
        have HX := YtbgmnmjokdfmlaaDoorW.PrintWords.Aside0.mk ((HCF.out _ _).1 (of_decide_eq_true hv))
        generalize d[(i + j) / 2]! = x at c0 c1 hc hv
        generalize d[a]! = y at e0 e1 hc hv
        go_wp2_with fail
        go_quiet_grown (first | (go_at_fn g; refine Calls.grown_of (hc _ _)))
        have S2 : Aside (SWK encJ 2 w0 blk off d (grow (wr.drewN nq) osq)) := S1.out.grown nq osq
        clear c0 c1 e0 e1 hc S1
        generalize grow (wr.drewN nq) osq = w2 at S2 ⊢
        clear nq osq
        go_wp2
        go_roundg (j - ((i + j) / 2 + 1))
        case measure => omega
        case rel => exact ⟨(i + j) / 2 + 1, j, by go_num, rfl, by omega, by omega, hjb, Nat.le_refl _, S2, (fun _ => HX.out), HR⟩
      | false =>
        have HX := YtbgmnmjokdfmlaaDoorW.PrintWords.Aside0.mk (fun h => of_decide_eq_false hv ((HCF.out _ _).2 h))
        generalize d[(i + j) / 2]! = x at c0 c1 hc hv
        generalize d[a]! = y at e0 e1 hc hv
        go_wp2_with fail
        go_quiet_grown (first | (go_at_fn g; refine Calls.grown_of (hc _ _)))
        have S2 : Aside (SWK encJ 2 w0 blk off d (grow (wr.drewN nq) osq)) := S1.out.grown nq osq
        clear c0 c1 e0 e1 hc S1
        generalize grow (wr.drewN nq) osq = w2 at S2 ⊢
        clear nq osq
        go_wp2
        go_roundg ((i + j) / 2 - i)
        case measure => omega
        case rel => exact ⟨i, (i + j) / 2, rfl, by go_num, hai, by omega, by omega, Nat.le_refl _, S2, HL, (fun _ => Int.not_lt.1 HX.out)⟩
    · obtain rfl : i = j := by omega
      have hltz : ¬ (i : Int) < (i : Int) := by omega
      go_wp2
      go_loopg [13] (i - 1 - a) (fun kx s13 wr => ∃ (k : Nat) (dk : Array S54), s13 = .int .i64 k ∧ a ≤ k ∧ k ≤ i - 1 ∧ i - 1 - k ≤ kx ∧ dk.size = d0.size ∧ Aside (SWK encJ 2 w0 blk off dk wr) ∧ Aside (∀ t, dk[t]! = d[rho a (a + 1) (k + 1) t]!))
      case atStart => exact ⟨a, d, rfl, Nat.le_refl _, by omega, Nat.le_refl _, hs, S1, (fun t => by rw [rho_none a (a + 1) (a + 1) t (by omega) (by omega) (by omega)])⟩
      case round =>
        clear S1
        obtain ⟨k, dk, rfl, hak, hki, hkx2, hds, S2, HK⟩ := hrel
        by_cases hlt2 : k < i - 1
        · have hltz2 : (k : Int) < (i : Int) - 1 := by omega
          have ew : ((k : Int) + 1).toNat = k + 1 := by omega
          have pw : (0 : Int) ≤ (k : Int) + 1 := by omega
          have bw : (k : Int) + 1 < (d0.size : Int) := by omega
          have bw2 : (k : Int) < (d0.size : Int) := by omega
          obtain ⟨p0, p1, _, _⟩ := swk_cell S2.out.drew R (by omega) k (by omega)
          obtain ⟨q0, q1, _, _⟩ := swk_cell S2.out.drew R (by omega) (k + 1) (by omega)
          obtain ⟨_, _, f2, f3⟩ := swk_cell S2.out R (by omega) k (by omega)
          obtain ⟨_, _, g2, g3⟩ := swk_cell S2.out R (by omega) (k + 1) (by omega)
          have q3 := fun u v => (swk_second S2.out R (by omega) k (k + 1) (by omega) (by omega) u v).1
          have q4 := fun u v => (swk_second S2.out R (by omega) k (k + 1) (by omega) (by omega) u v).2
          have S3 : Aside (SWK encJ 2 w0 blk off (swp dk k (k + 1)) (exch wr blk off k (k + 1) dk[k + 1]! dk[k]!)) := swk_swap S2.out R k (k + 1) (by omega) (by omega)
          clear S2
          generalize dk[k]! = X at *
          generalize dk[k + 1]! = Y at *
          go_wp2_with fail
          go_big_region_o
          clear p0 p1 q0 q1 f2 f3 g2 g3 q3 q4
          rw [exch_eq]
          generalize exch wr blk off k (k + 1) Y X = w2 at S3 ⊢
          go_wp2
          go_roundg (i - 1 - (k + 1))
          case measure => omega
          case rel => exact ⟨k + 1, swp dk k (k + 1), by go_num, by omega, by omega, Nat.le_refl _, by rw [size_swp]; exact hds, S3, rho_up (by omega) (by omega) hak HK.out⟩
        · have hltz2 : ¬ (k : Int) < (i : Int) - 1 := by omega
          go_wp2
          have he := one_left (key := key) (d := d) (d1 := dk) (a := a) (i := i) (b := b) (by omega) hai hjb SB.out (by omega) (fun t => by rw [HK.out, show k + 1 = i from by omega]) HL.out HR.out
          (try simp only [Exit.inBlock, Exit.then]); refine bodyPost_ret (results_none rfl _ _ _) rfl ?_
          exact ⟨rfl, dk, S2.out, he.1, he.2⟩
end Go.Proofs.YtbgmnmjokdfmlaaDoor.PA
namespace Go.Proofs.YtbgmnmjokdfmlaaDoor.PA
open Go.Shelf Go.RowKit Go.Lib Go.Sort
set_option linter.unusedVariables false
set_option linter.unusedSimpArgs false
set_option maxHeartbeats 16000000 in
set_option maxRecDepth 1000000 in
theorem symMerge.right (g : Nat) (cf : S54 → S54 → Int) (key : S54 → Int) (hcf : ∀ x y, cf x y < 0 ↔ key x < key y) (eg : ∀ args w, (callFunc g args).run Tryd.prog w = .ok (.enter g args) w)
    (blk off cap : Nat) (d0 : Array S54) (w0 : World) (R : RowK encJ 2 w0 blk off d0) (hC : CmpLays Tryd.prog g #[] encJ 2 cf blk off d0.size w0) (hsz : d0.size < 4611686018427387904)
    (a m b : Nat) (d : Array S54) (w : World) (hmb : b = m + 1) (hs : d.size = d0.size) (S : SWK encJ 2 w0 blk off d w) (h1 : m ≠ a + 1) (ha : a < m) (hb : b ≤ d0.size) (hA : Srt key d a m) :
    Calls Tryd.prog 122 #[.slice (some ⟨blk, off, none⟩) d0.size cap, .int .i64 (a), .int .i64 (m), .int .i64 (b), .func (.func g) #[] #[]] w fun e w' => e = .returned (.tuple #[]) ∧ ∃ d', SWK encJ 2 w0 blk off d' w' ∧ MG key d a b d' ∧ Srt key d' a b := by
  have mixed : Tryd.prog.follows .mixedOrders = true := by kernel_rfl
  have S0 : Aside (SWK encJ 2 w0 blk off d w) := S
  have HC := YtbgmnmjokdfmlaaDoorW.PrintWords.Aside0.mk hC
  have HCF := YtbgmnmjokdfmlaaDoorW.PrintWords.Aside0.mk hcf
  have SA := YtbgmnmjokdfmlaaDoorW.PrintWords.Aside0.mk hA
  clear S hC hcf hA
  have h1z : ¬ (m : Int) - (a : Int) = 1 := by omega
  have h1b : ((m : Int) - (a : Int) == 1) = false := beq_eq_false_iff_ne.2 h1z
  have h2z : (b : Int) - (m : Int) = 1 := by omega
  have m1 : b ≤ m + 1 := by omega
  have m2 : m + 1 ≤ b := by omega
  have HMB := YtbgmnmjokdfmlaaDoorW.PrintWords.Aside0.mk hmb
  clear hmb h1
  go_enter Tryd.func122, Tryd.ntmps122
  go_wp2
  go_loopg [14, 15] (m - a) (fun kx s10 s11 wr => ∃ (i j : Nat), s10 = .int .i64 i ∧ s11 = .int .i64 j ∧ a ≤ i ∧ i ≤ j ∧ j ≤ m ∧ j - i ≤ kx ∧ Aside (SWK encJ 2 w0 blk off d wr) ∧ Aside (a < i → key d[i - 1]! ≤ key d[m]!) ∧ Aside (j < m → key d[m]! < key d[j]!))
  case atStart => exact ⟨a, m, rfl, rfl, Nat.le_refl _, by omega, Nat.le_refl _, Nat.le_refl _, S0, (fun h => by omega), (fun h => by omega)⟩
  case round =>
    clear S0
    obtain ⟨i, j, rfl, rfl, hai, hij, hjb, hkx, S1, HL, HR⟩ := hrel
    by_cases hlt : i < j
    · have hltz : (i : Int) < (j : Int) := by omega
      have c0 := fun n' os' => (swk_gcell S1.out R hs ((i + j) / 2) (by omega) n' os').1
      have c1 := fun n' os' => (swk_gcell S1.out R hs ((i + j) / 2) (by omega) n' os').2
      have e0 := fun n' os' => (swk_gcell S1.out R hs m (by omega) n' os').1
      have e1 := fun n' os' => (swk_gcell S1.out R hs m (by omega) n' os').2
      have hc := fun n' os' => swk_cmp S1.out HC.out hs d[m]! d[(i + j) / 2]! n' os'
      have pa : (0 : Int) ≤ ((i : Int) + (j : Int)) / 2 := by omega
      have ba : ((i : Int) + (j : Int)) / 2 < (d0.size : Int) := by omega
      have ea : (((i : Int) + (j : Int)) / 2).toNat = (i + j) / 2 := by omega
      have b1 : (m : Int) < (d0.size : Int) := by omega
      cases hv : decide (cf d[m]! d[(i + j) / 2]! < 0) with
      | false =>
        have HX := YtbgmnmjokdfmlaaDoorW.PrintWords.Aside0.mk (fun h => of_decide_eq_false hv ((HCF.out _ _).2 h))
        generalize d[(i + j) / 2]! = y at c0 c1 hc hv
        generalize d[m]! = x at e0 e1 hc hv
        go_wp2_with fail
        go_quiet_grown (first | (go_at_fn g; refine Calls.grown_of (hc _ _)))
        have S2 : Aside (SWK encJ 2 w0 blk off d (grow (wr.drewN nq) osq)) := S1.out.grown nq osq
        clear c0 c1 e0 e1 hc S1
        generalize grow (wr.drewN nq) osq = w2 at S2 ⊢
        clear nq osq
        go_wp2
        go_roundg (j - ((i + j) / 2 + 1))
        case measure => omega
        case rel => exact ⟨(i + j) / 2 + 1, j, by go_num, rfl, by omega, by omega, hjb, Nat.le_refl _, S2, (fun _ => Int.not_lt.1 HX.out), HR⟩
      | true =>
        have HX := YtbgmnmjokdfmlaaDoorW.PrintWords.Aside0.mk ((HCF.out _ _).1 (of_decide_eq_true hv))
        generalize d[(i + j) / 2]! = y at c0 c1 hc hv
        generalize d[m]! = x at e0 e1 hc hv
        go_wp2_with fail
        go_quiet_grown (first | (go_at_fn g; refine Calls.grown_of (hc _ _)))
        have S2 : Aside (SWK encJ 2 w0 blk off d (grow (wr.drewN nq) osq)) := S1.out.grown nq osq
        clear c0 c1 e0 e1 hc S1
        generalize grow (wr.drewN nq) osq = w2 at S2 ⊢
        clear nq osq
        go_wp2
        go_roundg ((i + j) / 2 - i)
        case measure => omega
        case rel => exact ⟨i, (i + j) / 2, rfl, by go_num, hai, by omega, by omega, Nat.le_refl _, S2, HL, (fun _ => HX.out)⟩
    · obtain rfl : i = j := by omega
      have hltz : ¬ (i : Int) < (i : Int) := by omega
      go_wp2
      go_loopg [17] (m - i) (fun kx s13 wr => ∃ (k : Nat) (dk : Array S54), s13 = .int .i64 k ∧ i ≤ k ∧ k ≤ m ∧ k - i ≤ kx ∧ dk.size = d0.size ∧ Aside (SWK encJ 2 w0 blk off dk wr) ∧ Aside (∀ t, dk[t]! = d[rho k m (m + 1) t]!))
      case atStart => exact ⟨m, d, rfl, by omega, by omega, Nat.le_refl _, hs, S1, (fun t => by rw [rho_none m m (m + 1) t (by omega) (by omega) (by omega)])⟩
      case round =>
        clear S1
        obtain ⟨k, dk, rfl, hak, hki, hkx2, hds, S2, HK⟩ := hrel
        by_cases hlt2 : i < k
        · obtain ⟨kp, rfl⟩ : ∃ kp, k = kp + 1 := ⟨k - 1, by omega⟩
          have hltz2 : ((kp + 1 : Nat) : Int) > (i : Int) := by omega
          have hltz3 : (i : Int) < (kp : Int) + 1 := by omega
          have ew : ((kp : Int) + 1).toNat = kp + 1 := by omega
          have ew2 : ((kp : Int) + 1 - 1).toNat = kp := by omega
          have pw : (0 : Int) ≤ (kp : Int) + 1 := by omega
          have bw : (kp : Int) + 1 < (d0.size : Int) := by omega
          have bw2 : (kp : Int) < (d0.size : Int) := by omega
          obtain ⟨p0, p1, _, _⟩ := swk_cell S2.out.drew R (by omega) (kp + 1) (by omega)
          obtain ⟨q0, q1, _, _⟩ := swk_cell S2.out.drew R (by omega) kp (by omega)
          obtain ⟨_, _, f2, f3⟩ := swk_cell S2.out R (by omega) (kp + 1) (by omega)
          obtain ⟨_, _, g2, g3⟩ := swk_cell S2.out R (by omega) kp (by omega)
          have q3 := fun u v => (swk_second S2.out R (by omega) (kp + 1) kp (by omega) (by omega) u v).1
          have q4 := fun u v => (swk_second S2.out R (by omega) (kp + 1) kp (by omega) (by omega) u v).2
          have S3 : Aside (SWK encJ 2 w0 blk off (swp dk (kp + 1) kp) (exch wr blk off (kp + 1) kp dk[kp]! dk[kp + 1]!)) := swk_swap S2.out R (kp + 1) kp (by omega) (by omega)
          clear S2
          generalize dk[kp + 1]! = X at *
          generalize dk[kp]! = Y at *
          go_wp2_with fail
          go_big_region_o
          clear p0 p1 q0 q1 f2 f3 g2 g3 q3 q4
          rw [exch_eq]
          generalize exch wr blk off (kp + 1) kp Y X = w2 at S3 ⊢
          go_wp2
          go_roundg (kp - i)
          case measure => omega
          case rel => exact ⟨kp, swp dk (kp + 1) kp, by go_num, by omega, by omega, Nat.le_refl _, by rw [size_swp]; exact hds, S3, rho_down (by omega) (by omega) (by omega) HK.out⟩
        · have hltz2 : ¬ ((k : Nat) : Int) > (i : Int) := by omega
          have hltz3 : ¬ (i : Int) < (k : Int) := by omega
          go_wp2
          have hmb := HMB.out
          subst hmb
          have he := one_right (key := key) (d := d) (d1 := dk) (a := a) (i := i) (m := m) (by omega) hai hjb SA.out (by omega) (fun t => by rw [HK.out, show k = i from by omega]) HL.out HR.out
          (try simp only [Exit.inBlock, Exit.then]); refine bodyPost_ret (results_none rfl _ _ _) rfl ?_
          exact ⟨rfl, dk, S2.out, he.1, he.2⟩
end Go.Proofs.YtbgmnmjokdfmlaaDoor.PA
namespace Go.Proofs.YtbgmnmjokdfmlaaDoor.PA
open Go.Shelf Go.RowKit Go.Lib Go.Sort
set_option linter.unusedVariables false
set_option linter.unusedSimpArgs false
def tlC : Nat → Code → Code
  | 0, c => c
  | k + 1, .seq _ b => tlC k b
  | _, c => c
set_option maxHeartbeats 16000000 in
set_option maxRecDepth 1000000 in
theorem symMerge.t43 (g : Nat) (cf : S54 → S54 → Int) (key : S54 → Int) (blk off cap : Nat) (d0 : Array S54) (w0 : World) (R : RowK encJ 2 w0 blk off d0) (hsz : d0.size < 4611686018427387904) (n : Nat) (hIH : SymAt g cf key blk off cap d0 w0 n)
    (a m b q i e : Nat) (d : Array S54) (w : World) (hn : b - a ≤ n + 1) (hs : d.size = d0.size) (hm : m < b) (hb : b ≤ d0.size) (q1 : 2 * q ≤ a + b) (q2 : a + b ≤ 2 * q + 1) (hs0i : a ≤ i) (him : i ≤ m) (E1 : e + i = q + m) (e3 : m ≤ e) (e4 : e ≤ b) (e5 : i ≤ q) (e6 : q ≤ e) (hA : Srt key d a m) (hB : Srt key d m b) (hL : a < i → e < b → key d[i - 1]! ≤ key d[e]!) (hR : i < m → m < e → key d[e - 1]! < key d[i]!) (d1 d2 : Array S54) (hz1 : d1.size = d0.size) (hp1 : ∀ t, d1[t]! = d[rho i m e t]!) (k2 : MG key d1 a q d2) (s2 : Srt key d2 a q) (t1 : ∀ x y, q ≤ x → x < y → y < e → key d2[x]! ≤ key d2[y]!) (t2 : ∀ x y, e ≤ x → x < y → y < b → key d2[x]! ≤ key d2[y]!) (S : SWK encJ 2 w0 blk off d2 w)
    {u5 u6 u7 u8 u9 u10 u11 u12 u13 u14 u15 u16 u17 u19 u21 u22 u23 u25 u26 u27 u28 u29 u30 u31 u32 u33 u34 u35 u36 u37 u38 u39 u40 u41 u42 u43 u44 u45 u46 u47 u48 u49 u50 u51 u52 u53 u54 u55 u56 u57 u58 u59 u60 u61 u62 u63 u64 u65 u66 u67 u68 u69 u70 u71 u72 u73 u74 u75 u76 u77 u78 u79 u80 u81 u82 u83 u84 u85 u86 u87 u88 u89 u90 u91 u92 u93 u94 u95 u96 u97 u98 u99 u100 u101 u102 u103 u104 u105 u106 u107 u108 u109 u110 u111 u112 u113 u114 u115 u116 u117 u118 u119 u120 u121 u122 u123 u124 u125 u126 u127 u128 u129 u130 u131 u132 u133 u134 u135 u136 u137 u138 u139 u140 u141 u142 u143 u144 u145 u146 u147 u148 u149 u150 u151 u152 u153 u154 u155 u156 u157 u158 u159 u160 u161 u162 u163 u164 u165 u166 u167 u168 u169 u170 u171 u172 u173 u174 u175 u176 u177 u178 u179 u180 u181 u182 u183 u184 u185 u186 u187 u188 u189 u190 u191 u192 u193 u194 u195 u196 u197 u198 u199 u200 u201 u202 u203 u204 u205 u206 u207 u208 u209 u210 u211 u212 u213 u214 u215 u216 u217 u218 u219 : Value} :
    Code.wp Tryd.prog (tlC 11 (Tryd.f122.body.getD .skip)) (bodyPost Tryd.prog Tryd.f122 fun e w' => e = .returned (.tuple #[]) ∧ ∃ d', SWK encJ 2 w0 blk off d' w' ∧ MG key d a b d' ∧ Srt key d' a b) ⟨List.toArray ((.slice (some ⟨blk, off, none⟩) d0.size cap : Value) :: (.int .i64 a : Value) :: (.int .i64 m : Value) :: (.int .i64 b : Value) :: (.func (.func g) #[] #[] : Value) :: u5 :: u6 :: u7 :: u8 :: u9 :: u10 :: u11 :: u12 :: u13 :: u14 :: u15 :: u16 :: u17 :: (.int .i64 q : Value) :: u19 :: (.int .i64 i : Value) :: u21 :: u22 :: u23 :: (.int .i64 e : Value) :: u25 :: u26 :: u27 :: u28 :: u29 :: u30 :: u31 :: u32 :: u33 :: u34 :: u35 :: u36 :: u37 :: u38 :: u39 :: u40 :: u41 :: u42 :: u43 :: u44 :: u45 :: u46 :: u47 :: u48 :: u49 :: u50 :: u51 :: u52 :: u53 :: u54 :: u55 :: u56 :: u57 :: u58 :: u59 :: u60 :: u61 :: u62 :: u63 :: u64 :: u65 :: u66 :: u67 :: u68 :: u69 :: u70 :: u71 :: u72 :: u73 :: u74 :: u75 :: u76 :: u77 :: u78 :: u79 :: u80 :: u81 :: u82 :: u83 :: u84 :: u85 :: u86 :: u87 :: u88 :: u89 :: u90 :: u91 :: u92 :: u93 :: u94 :: u95 :: u96 :: u97 :: u98 :: u99 :: u100 :: u101 :: u102 :: u103 :: u104 :: u105 :: u106 :: u107 :: u108 :: u109 :: u110 :: u111 :: u112 :: u113 :: u114 :: u115 :: u116 :: u117 :: u118 :: u119 :: u120 :: u121 :: u122 :: u123 :: u124 :: u125 :: u126 :: u127 :: u128 :: u129 :: u130 :: u131 :: u132 :: u133 :: u134 :: u135 :: u136 :: u137 :: u138 :: u139 :: u140 :: u141 :: u142 :: u143 :: u144 :: u145 :: u146 :: u147 :: u148 :: u149 :: u150 :: u151 :: u152 :: u153 :: u154 :: u155 :: u156 :: u157 :: u158 :: u159 :: u160 :: u161 :: u162 :: u163 :: u164 :: u165 :: u166 :: u167 :: u168 :: u169 :: u170 :: u171 :: u172 :: u173 :: u174 :: u175 :: u176 :: u177 :: u178 :: u179 :: u180 :: u181 :: u182 :: u183 :: u184 :: u185 :: u186 :: u187 :: u188 :: u189 :: u190 :: u191 :: u192 :: u193 :: u194 :: u195 :: u196 :: u197 :: u198 :: u199 :: u200 :: u201 :: u202 :: u203 :: u204 :: u205 :: u206 :: u207 :: u208 :: u209 :: u210 :: u211 :: u212 :: u213 :: u214 :: u215 :: u216 :: u217 :: u218 :: u219 :: []), []⟩ w := by
  have mixed : Tryd.prog.follows .mixedOrders = true := by kernel_rfl
  have IH := YtbgmnmjokdfmlaaDoorW.PrintWords.Aside0.mk hIH
  have SA := YtbgmnmjokdfmlaaDoorW.PrintWords.Aside0.mk hA
  have SB := YtbgmnmjokdfmlaaDoorW.PrintWords.Aside0.mk hB
  have HLL := YtbgmnmjokdfmlaaDoorW.PrintWords.Aside0.mk hL
  have HRR := YtbgmnmjokdfmlaaDoorW.PrintWords.Aside0.mk hR
  clear hIH hA hB hL hR
  have T3 : Aside (SWK encJ 2 w0 blk off d2 w) := S
  have HP1 := YtbgmnmjokdfmlaaDoorW.PrintWords.Aside0.mk hp1
  have K2 := YtbgmnmjokdfmlaaDoorW.PrintWords.Aside0.mk k2
  have S2 := YtbgmnmjokdfmlaaDoorW.PrintWords.Aside0.mk s2
  have HD2 := YtbgmnmjokdfmlaaDoorW.PrintWords.Aside0.mk (And.intro t1 t2)
  clear hp1 k2 s2 t1 t2 S
  conv => arg 2; whnf
  go_upto_region 43 with (fail)
  rename_i hK
  go_cut [213] (fun v wx => ∃ bv : Bool, v = .bool bv ∧ YtbgmnmjokdfmlaaDoorW.PrintWords.Aside0 (bv = decide ((q < e) ∧ (e < b))) ∧ YtbgmnmjokdfmlaaDoorW.PrintWords.Aside0 (wx = w))
  case first =>
    by_cases g1 : q < e
    · have g1z : (q : Int) < (e : Int) := by omega
      by_cases g2 : e < b
      · have g2z : (e : Int) < (b : Int) := by omega
        go_wp2_with fail
        go_meet
        exact ⟨true, rfl, ⟨(decide_eq_true ⟨g1, g2⟩).symm⟩, ⟨rfl⟩⟩
      · have g2z : ¬ (e : Int) < (b : Int) := by omega
        go_wp2_with fail
        go_meet
        exact ⟨false, rfl, ⟨(decide_eq_false (fun h => g2 h.2)).symm⟩, ⟨rfl⟩⟩
    · have g1z : ¬ (q : Int) < (e : Int) := by omega
      go_wp2_with fail
      go_meet
      exact ⟨false, rfl, ⟨(decide_eq_false (fun h => g1 h.1)).symm⟩, ⟨rfl⟩⟩
  case rest =>
    obtain ⟨bv, rfl, hbv, hw1⟩ := hcut
    have T4 : Aside (SWK encJ 2 w0 blk off d2 wc) := by rw [hw1.out]; exact T3
    clear T3 hw1
    cases bv
    rotate_left
    · have hr : q < e ∧ e < b := of_decide_eq_true hbv.out.symm
      have HR0 := YtbgmnmjokdfmlaaDoorW.PrintWords.Aside0.mk (IH.out q e b d2 wc (by omega) (K2.out.1.trans hz1) T4.out hr.1 hr.2 (by omega) HD2.out.1 HD2.out.2)
      clear hr
      go_wp2_with (first | (go_at_call 122; refine HR0.out.mono ?_; rintro _ w1 ⟨rfl, d3, hS, hp1⟩; have T5 : Aside (SWK encJ 2 w0 blk off d3 w1) := hS; have HP3 := YtbgmnmjokdfmlaaDoorW.PrintWords.Aside0.mk hp1; clear hS hp1))
      go_end0
      have hf := merge_done (key := key) (d := d) (d1 := d1) (d2 := d2) (d3 := d3) (a := a) (s := i) (m := m) (e := e) (b := b) (q := q) (by omega) hs0i him e3 e4 (by omega) SA.out SB.out (by omega) HP1.out HLL.out HRR.out K2.out S2.out HP3.out.1 HP3.out.2
      exact ⟨rfl, d3, T5.out, hf.1, hf.2⟩
    · have hr : ¬ (q < e ∧ e < b) := of_decide_eq_false hbv.out.symm
      have HQ3 := YtbgmnmjokdfmlaaDoorW.PrintWords.Aside0.mk (show Srt key d2 q b from by
        by_cases hqe : q < e
        · have : b = e := by omega
          subst this
          exact HD2.out.1
        · have : q = e := by omega
          subst this
          exact HD2.out.2)
      clear hr
      go_wp2
      go_end0
      have hf := merge_done (key := key) (d := d) (d1 := d1) (d2 := d2) (d3 := d2) (a := a) (s := i) (m := m) (e := e) (b := b) (q := q) (by omega) hs0i him e3 e4 (by omega) SA.out SB.out (by omega) HP1.out HLL.out HRR.out K2.out S2.out (MG.refl _ _ _) HQ3.out
      exact ⟨rfl, d2, T4.out, hf.1, hf.2⟩
set_option maxHeartbeats 16000000 in
set_option maxRecDepth 1000000 in
theorem symMerge.t41 (g : Nat) (cf : S54 → S54 → Int) (key : S54 → Int) (blk off cap : Nat) (d0 : Array S54) (w0 : World) (R : RowK encJ 2 w0 blk off d0) (hsz : d0.size < 4611686018427387904) (n : Nat) (hIH : SymAt g cf key blk off cap d0 w0 n)
    (a m b q i e : Nat) (d : Array S54) (w : World) (hn : b - a ≤ n + 1) (hs : d.size = d0.size) (hm : m < b) (hb : b ≤ d0.size) (q1 : 2 * q ≤ a + b) (q2 : a + b ≤ 2 * q + 1) (hs0i : a ≤ i) (him : i ≤ m) (E1 : e + i = q + m) (e3 : m ≤ e) (e4 : e ≤ b) (e5 : i ≤ q) (e6 : q ≤ e) (hA : Srt key d a m) (hB : Srt key d m b) (hL : a < i → e < b → key d[i - 1]! ≤ key d[e]!) (hR : i < m → m < e → key d[e - 1]! < key d[i]!) (d1 : Array S54) (hz1 : d1.size = d0.size) (hp1 : ∀ t, d1[t]! = d[rho i m e t]!) (S : SWK encJ 2 w0 blk off d1 w)
    {u5 u6 u7 u8 u9 u10 u11 u12 u13 u14 u15 u16 u17 u19 u21 u22 u23 u25 u26 u27 u28 u29 u30 u31 u32 u33 u34 u35 u36 u37 u38 u39 u40 u41 u42 u43 u44 u45 u46 u47 u48 u49 u50 u51 u52 u53 u54 u55 u56 u57 u58 u59 u60 u61 u62 u63 u64 u65 u66 u67 u68 u69 u70 u71 u72 u73 u74 u75 u76 u77 u78 u79 u80 u81 u82 u83 u84 u85 u86 u87 u88 u89 u90 u91 u92 u93 u94 u95 u96 u97 u98 u99 u100 u101 u102 u103 u104 u105 u106 u107 u108 u109 u110 u111 u112 u113 u114 u115 u116 u117 u118 u119 u120 u121 u122 u123 u124 u125 u126 u127 u128 u129 u130 u131 u132 u133 u134 u135 u136 u137 u138 u139 u140 u141 u142 u143 u144 u145 u146 u147 u148 u149 u150 u151 u152 u153 u154 u155 u156 u157 u158 u159 u160 u161 u162 u163 u164 u165 u166 u167 u168 u169 u170 u171 u172 u173 u174 u175 u176 u177 u178 u179 u180 u181 u182 u183 u184 u185 u186 u187 u188 u189 u190 u191 u192 u193 u194 u195 u196 u197 u198 u199 u200 u201 u202 u203 u204 u205 u206 u207 u208 u209 u210 u211 u212 u213 u214 u215 u216 u217 u218 u219 : Value} :
    Code.wp Tryd.prog (tlC 10 (Tryd.f122.body.getD .skip)) (bodyPost Tryd.prog Tryd.f122 fun e w' => e = .returned (.tuple #[]) ∧ ∃ d', SWK encJ 2 w0 blk off d' w' ∧ MG key d a b d' ∧ Srt key d' a b) ⟨List.toArray ((.slice (some ⟨blk, off, none⟩) d0.size cap : Value) :: (.int .i64 a : Value) :: (.int .i64 m : Value) :: (.int .i64 b : Value) :: (.func (.func g) #[] #[] : Value) :: u5 :: u6 :: u7 :: u8 :: u9 :: u10 :: u11 :: u12 :: u13 :: u14 :: u15 :: u16 :: u17 :: (.int .i64 q : Value) :: u19 :: (.int .i64 i : Value) :: u21 :: u22 :: u23 :: (.int .i64 e : Value) :: u25 :: u26 :: u27 :: u28 :: u29 :: u30 :: u31 :: u32 :: u33 :: u34 :: u35 :: u36 :: u37 :: u38 :: u39 :: u40 :: u41 :: u42 :: u43 :: u44 :: u45 :: u46 :: u47 :: u48 :: u49 :: u50 :: u51 :: u52 :: u53 :: u54 :: u55 :: u56 :: u57 :: u58 :: u59 :: u60 :: u61 :: u62 :: u63 :: u64 :: u65 :: u66 :: u67 :: u68 :: u69 :: u70 :: u71 :: u72 :: u73 :: u74 :: u75 :: u76 :: u77 :: u78 :: u79 :: u80 :: u81 :: u82 :: u83 :: u84 :: u85 :: u86 :: u87 :: u88 :: u89 :: u90 :: u91 :: u92 :: u93 :: u94 :: u95 :: u96 :: u97 :: u98 :: u99 :: u100 :: u101 :: u102 :: u103 :: u104 :: u105 :: u106 :: u107 :: u108 :: u109 :: u110 :: u111 :: u112 :: u113 :: u114 :: u115 :: u116 :: u117 :: u118 :: u119 :: u120 :: u121 :: u122 :: u123 :: u124 :: u125 :: u126 :: u127 :: u128 :: u129 :: u130 :: u131 :: u132 :: u133 :: u134 :: u135 :: u136 :: u137 :: u138 :: u139 :: u140 :: u141 :: u142 :: u143 :: u144 :: u145 :: u146 :: u147 :: u148 :: u149 :: u150 :: u151 :: u152 :: u153 :: u154 :: u155 :: u156 :: u157 :: u158 :: u159 :: u160 :: u161 :: u162 :: u163 :: u164 :: u165 :: u166 :: u167 :: u168 :: u169 :: u170 :: u171 :: u172 :: u173 :: u174 :: u175 :: u176 :: u177 :: u178 :: u179 :: u180 :: u181 :: u182 :: u183 :: u184 :: u185 :: u186 :: u187 :: u188 :: u189 :: u190 :: u191 :: u192 :: u193 :: u194 :: u195 :: u196 :: u197 :: u198 :: u199 :: u200 :: u201 :: u202 :: u203 :: u204 :: u205 :: u206 :: u207 :: u208 :: u209 :: u210 :: u211 :: u212 :: u213 :: u214 :: u215 :: u216 :: u217 :: u218 :: u219 :: []), []⟩ w := by
  have mixed : Tryd.prog.follows .mixedOrders = true := by kernel_rfl
  have IH := YtbgmnmjokdfmlaaDoorW.PrintWords.Aside0.mk hIH
  have SA := YtbgmnmjokdfmlaaDoorW.PrintWords.Aside0.mk hA
  have SB := YtbgmnmjokdfmlaaDoorW.PrintWords.Aside0.mk hB
  have HLL := YtbgmnmjokdfmlaaDoorW.PrintWords.Aside0.mk hL
  have HRR := YtbgmnmjokdfmlaaDoorW.PrintWords.Aside0.mk hR
  clear hIH hA hB hL hR
  have T1 : Aside (SWK encJ 2 w0 blk off d1 w) := S
  have HP1 := YtbgmnmjokdfmlaaDoorW.PrintWords.Aside0.mk hp1
  clear hp1 S
  have HRS := YtbgmnmjokdfmlaaDoorW.PrintWords.Aside0.mk (show (∀ x y, a ≤ x → x < y → y < i → key d1[x]! ≤ key d1[y]!) ∧ (∀ x y, i ≤ x → x < y → y < q → key d1[x]! ≤ key d1[y]!) ∧ (∀ x y, q ≤ x → x < y → y < e → key d1[x]! ≤ key d1[y]!) ∧ (∀ x y, e ≤ x → x < y → y < b → key d1[x]! ≤ key d1[y]!) from by
    refine ⟨fun x y x1 x2 x3 => ?_, fun x y x1 x2 x3 => ?_, fun x y x1 x2 x3 => ?_, fun x y x1 x2 x3 => ?_⟩
    · rw [HP1.out, HP1.out, show rho i m e x = x from by unfold rho; (repeat' split) <;> omega, show rho i m e y = y from by unfold rho; (repeat' split) <;> omega]
      exact SA.out _ _ x1 x2 (by omega)
    · rw [HP1.out, HP1.out, show rho i m e x = m + (x - i) from by unfold rho; (repeat' split) <;> omega, show rho i m e y = m + (y - i) from by unfold rho; (repeat' split) <;> omega]
      exact SB.out _ _ (by omega) (by omega) (by omega)
    · rw [HP1.out, HP1.out, show rho i m e x = x - (e - m) from by unfold rho; (repeat' split) <;> omega, show rho i m e y = y - (e - m) from by unfold rho; (repeat' split) <;> omega]
      exact SA.out _ _ (by omega) (by omega) (by omega)
    · rw [HP1.out, HP1.out, show rho i m e x = x from by unfold rho; (repeat' split) <;> omega, show rho i m e y = y from by unfold rho; (repeat' split) <;> omega]
      exact SB.out _ _ (by omega) (by omega) (by omega))
  conv => arg 2; whnf
  go_upto_region 41 with (fail)
  rename_i hK
  go_cut [199] (fun v wx => ∃ bv : Bool, v = .bool bv ∧ YtbgmnmjokdfmlaaDoorW.PrintWords.Aside0 (bv = decide ((a < i) ∧ (i < q))) ∧ YtbgmnmjokdfmlaaDoorW.PrintWords.Aside0 (wx = w))
  case first =>
    by_cases g1 : a < i
    · have g1z : (a : Int) < (i : Int) := by omega
      by_cases g2 : i < q
      · have g2z : (i : Int) < (q : Int) := by omega
        go_wp2_with fail
        go_meet
        exact ⟨true, rfl, ⟨(decide_eq_true ⟨g1, g2⟩).symm⟩, ⟨rfl⟩⟩
      · have g2z : ¬ (i : Int) < (q : Int) := by omega
        go_wp2_with fail
        go_meet
        exact ⟨false, rfl, ⟨(decide_eq_false (fun h => g2 h.2)).symm⟩, ⟨rfl⟩⟩
    · have g1z : ¬ (a : Int) < (i : Int) := by omega
      go_wp2_with fail
      go_meet
      exact ⟨false, rfl, ⟨(decide_eq_false (fun h => g1 h.1)).symm⟩, ⟨rfl⟩⟩
  case rest =>
    obtain ⟨bv, rfl, hbv, hw1⟩ := hcut
    have T2 : Aside (SWK encJ 2 w0 blk off d1 wc) := by rw [hw1.out]; exact T1
    clear T1 hw1
    generalize wc = wa2 at *
    go_upto_if 199 with (fail)
    rename_i hK2
    go_cut [] (fun wx => ∃ d2, Aside (SWK encJ 2 w0 blk off d2 wx) ∧ YtbgmnmjokdfmlaaDoorW.PrintWords.Aside0 (MG key d1 a q d2 ∧ Srt key d2 a q))
    case first =>
      cases bv
      rotate_left
      · have hr : a < i ∧ i < q := of_decide_eq_true hbv.out.symm
        have HR0 := YtbgmnmjokdfmlaaDoorW.PrintWords.Aside0.mk (IH.out a i q d1 wa2 (by omega) hz1 T2.out hr.1 hr.2 (by omega) HRS.out.1 HRS.out.2.1)
        clear hr
        go_wp2_with (first | (go_at_call 122; refine HR0.out.mono ?_; rintro _ w1 ⟨rfl, d2, hS, hp1⟩; have T3 : Aside (SWK encJ 2 w0 blk off d2 w1) := hS; have HP2 := YtbgmnmjokdfmlaaDoorW.PrintWords.Aside0.mk hp1; clear hS hp1))
        go_meet
        exact ⟨d2, T3, HP2⟩
      · have hr : ¬ (a < i ∧ i < q) := of_decide_eq_false hbv.out.symm
        have HN := YtbgmnmjokdfmlaaDoorW.PrintWords.Aside0.mk hr
        clear hr
        go_wp2
        go_meet
        refine ⟨d1, T2, ⟨MG.refl _ _ _, ?_⟩⟩
        have hr := HN.out
        by_cases hai2 : a < i
        · have : q = i := by omega
          subst this
          exact HRS.out.1
        · have : a = i := by omega
          subst this
          exact HRS.out.2.1
    case rest =>
      obtain ⟨d2, T3, HP2⟩ := hcut
      refine hK2 _ _ ?_
      exact symMerge.t43 g cf key blk off cap d0 w0 R hsz n IH.out a m b q i e d _ hn hs hm hb q1 q2 hs0i him E1 e3 e4 e5 e6 SA.out SB.out HLL.out HRR.out d1 d2 hz1 HP1.out HP2.out.1 HP2.out.2
        (fun x y x1 x2 x3 => by rw [HP2.out.1.2.1 x (.inr x1), HP2.out.1.2.1 y (.inr (by omega))]; exact HRS.out.2.2.1 x y x1 x2 x3) (fun x y x1 x2 x3 => by rw [HP2.out.1.2.1 x (.inr (by omega)), HP2.out.1.2.1 y (.inr (by omega))]; exact HRS.out.2.2.2 x y x1 x2 x3) T3.out
set_option maxHeartbeats 16000000 in
set_option maxRecDepth 1000000 in
theorem symMerge.t39 (g : Nat) (cf : S54 → S54 → Int) (key : S54 → Int) (blk off cap : Nat) (d0 : Array S54) (w0 : World) (R : RowK encJ 2 w0 blk off d0) (hsz : d0.size < 4611686018427387904) (n : Nat) (hIH : SymAt g cf key blk off cap d0 w0 n)
    (a m b q i e : Nat) (d : Array S54) (w : World) (hn : b - a ≤ n + 1) (hs : d.size = d0.size) (S : SWK encJ 2 w0 blk off d w) (hm : m < b) (hb : b ≤ d0.size) (q1 : 2 * q ≤ a + b) (q2 : a + b ≤ 2 * q + 1) (hs0i : a ≤ i) (him : i ≤ m) (E1 : e + i = q + m) (e3 : m ≤ e) (e4 : e ≤ b) (e5 : i ≤ q) (e6 : q ≤ e) (hA : Srt key d a m) (hB : Srt key d m b) (hL : a < i → e < b → key d[i - 1]! ≤ key d[e]!) (hR : i < m → m < e → key d[e - 1]! < key d[i]!)
    {u5 u6 u7 u8 u9 u10 u11 u12 u13 u14 u15 u16 u17 u19 u21 u22 u23 u25 u26 u27 u28 u29 u30 u31 u32 u33 u34 u35 u36 u37 u38 u39 u40 u41 u42 u43 u44 u45 u46 u47 u48 u49 u50 u51 u52 u53 u54 u55 u56 u57 u58 u59 u60 u61 u62 u63 u64 u65 u66 u67 u68 u69 u70 u71 u72 u73 u74 u75 u76 u77 u78 u79 u80 u81 u82 u83 u84 u85 u86 u87 u88 u89 u90 u91 u92 u93 u94 u95 u96 u97 u98 u99 u100 u101 u102 u103 u104 u105 u106 u107 u108 u109 u110 u111 u112 u113 u114 u115 u116 u117 u118 u119 u120 u121 u122 u123 u124 u125 u126 u127 u128 u129 u130 u131 u132 u133 u134 u135 u136 u137 u138 u139 u140 u141 u142 u143 u144 u145 u146 u147 u148 u149 u150 u151 u152 u153 u154 u155 u156 u157 u158 u159 u160 u161 u162 u163 u164 u165 u166 u167 u168 u169 u170 u171 u172 u173 u174 u175 u176 u177 u178 u179 u180 u181 u182 u183 u184 u185 u186 u187 u188 u189 u190 u191 u192 u193 u194 u195 u196 u197 u198 u199 u200 u201 u202 u203 u204 u205 u206 u207 u208 u209 u210 u211 u212 u213 u214 u215 u216 u217 u218 u219 : Value} :
    Code.wp Tryd.prog (tlC 9 (Tryd.f122.body.getD .skip)) (bodyPost Tryd.prog Tryd.f122 fun e w' => e = .returned (.tuple #[]) ∧ ∃ d', SWK encJ 2 w0 blk off d' w' ∧ MG key d a b d' ∧ Srt key d' a b) ⟨List.toArray ((.slice (some ⟨blk, off, none⟩) d0.size cap : Value) :: (.int .i64 a : Value) :: (.int .i64 m : Value) :: (.int .i64 b : Value) :: (.func (.func g) #[] #[] : Value) :: u5 :: u6 :: u7 :: u8 :: u9 :: u10 :: u11 :: u12 :: u13 :: u14 :: u15 :: u16 :: u17 :: (.int .i64 q : Value) :: u19 :: (.int .i64 i : Value) :: u21 :: u22 :: u23 :: (.int .i64 e : Value) :: u25 :: u26 :: u27 :: u28 :: u29 :: u30 :: u31 :: u32 :: u33 :: u34 :: u35 :: u36 :: u37 :: u38 :: u39 :: u40 :: u41 :: u42 :: u43 :: u44 :: u45 :: u46 :: u47 :: u48 :: u49 :: u50 :: u51 :: u52 :: u53 :: u54 :: u55 :: u56 :: u57 :: u58 :: u59 :: u60 :: u61 :: u62 :: u63 :: u64 :: u65 :: u66 :: u67 :: u68 :: u69 :: u70 :: u71 :: u72 :: u73 :: u74 :: u75 :: u76 :: u77 :: u78 :: u79 :: u80 :: u81 :: u82 :: u83 :: u84 :: u85 :: u86 :: u87 :: u88 :: u89 :: u90 :: u91 :: u92 :: u93 :: u94 :: u95 :: u96 :: u97 :: u98 :: u99 :: u100 :: u101 :: u102 :: u103 :: u104 :: u105 :: u106 :: u107 :: u108 :: u109 :: u110 :: u111 :: u112 :: u113 :: u114 :: u115 :: u116 :: u117 :: u118 :: u119 :: u120 :: u121 :: u122 :: u123 :: u124 :: u125 :: u126 :: u127 :: u128 :: u129 :: u130 :: u131 :: u132 :: u133 :: u134 :: u135 :: u136 :: u137 :: u138 :: u139 :: u140 :: u141 :: u142 :: u143 :: u144 :: u145 :: u146 :: u147 :: u148 :: u149 :: u150 :: u151 :: u152 :: u153 :: u154 :: u155 :: u156 :: u157 :: u158 :: u159 :: u160 :: u161 :: u162 :: u163 :: u164 :: u165 :: u166 :: u167 :: u168 :: u169 :: u170 :: u171 :: u172 :: u173 :: u174 :: u175 :: u176 :: u177 :: u178 :: u179 :: u180 :: u181 :: u182 :: u183 :: u184 :: u185 :: u186 :: u187 :: u188 :: u189 :: u190 :: u191 :: u192 :: u193 :: u194 :: u195 :: u196 :: u197 :: u198 :: u199 :: u200 :: u201 :: u202 :: u203 :: u204 :: u205 :: u206 :: u207 :: u208 :: u209 :: u210 :: u211 :: u212 :: u213 :: u214 :: u215 :: u216 :: u217 :: u218 :: u219 :: []), []⟩ w := by
  have mixed : Tryd.prog.follows .mixedOrders = true := by kernel_rfl
  have IH := YtbgmnmjokdfmlaaDoorW.PrintWords.Aside0.mk hIH
  have SA := YtbgmnmjokdfmlaaDoorW.PrintWords.Aside0.mk hA
  have SB := YtbgmnmjokdfmlaaDoorW.PrintWords.Aside0.mk hB
  have HLL := YtbgmnmjokdfmlaaDoorW.PrintWords.Aside0.mk hL
  have HRR := YtbgmnmjokdfmlaaDoorW.PrintWords.Aside0.mk hR
  clear hIH hA hB hL hR
  have T0 : Aside (SWK encJ 2 w0 blk off d w) := S
  clear S
  conv => arg 2; whnf
  go_upto_region 39 with (fail)
  rename_i hK
  go_cut [185] (fun v wx => ∃ bv : Bool, v = .bool bv ∧ YtbgmnmjokdfmlaaDoorW.PrintWords.Aside0 (bv = decide ((i < m) ∧ (m < e))) ∧ YtbgmnmjokdfmlaaDoorW.PrintWords.Aside0 (wx = w))
  case first =>
    by_cases g1 : i < m
    · have g1z : (i : Int) < (m : Int) := by omega
      by_cases g2 : m < e
      · have g2z : (m : Int) < (e : Int) := by omega
        go_wp2_with fail
        go_meet
        exact ⟨true, rfl, ⟨(decide_eq_true ⟨g1, g2⟩).symm⟩, ⟨rfl⟩⟩
      · have g2z : ¬ (m : Int) < (e : Int) := by omega
        go_wp2_with fail
        go_meet
        exact ⟨false, rfl, ⟨(decide_eq_false (fun h => g2 h.2)).symm⟩, ⟨rfl⟩⟩
    · have g1z : ¬ (i : Int) < (m : Int) := by omega
      go_wp2_with fail
      go_meet
      exact ⟨false, rfl, ⟨(decide_eq_false (fun h => g1 h.1)).symm⟩, ⟨rfl⟩⟩
  case rest =>
    obtain ⟨bv, rfl, hbv, hw1⟩ := hcut
    have T1 : Aside (SWK encJ 2 w0 blk off d wc) := by rw [hw1.out]; exact T0
    clear T0 hw1
    generalize wc = wa at *
    go_upto_if 185 with (fail)
    rename_i hK2
    go_cut [] (fun wx => ∃ d1, Aside (SWK encJ 2 w0 blk off d1 wx) ∧ d1.size = d0.size ∧ YtbgmnmjokdfmlaaDoorW.PrintWords.Aside0 (∀ t, d1[t]! = d[rho i m e t]!))
    case first =>
      cases bv
      rotate_left
      · have hr : i < m ∧ m < e := of_decide_eq_true hbv.out.symm
        have hr0 := rotate.calls g blk off cap i m e d0 d w0 wa R hs.symm T1.out hr.1 hr.2 (by omega) (by omega)
        rw [hs] at hr0
        have HR0 := YtbgmnmjokdfmlaaDoorW.PrintWords.Aside0.mk hr0
        clear hr0 hr
        go_wp2_with (first | (go_at_call 123; refine HR0.out.mono ?_; rintro _ w1 ⟨rfl, d1, hS, hz1, hp1⟩; have T2 : Aside (SWK encJ 2 w0 blk off d1 w1) := hS; have HP1 := YtbgmnmjokdfmlaaDoorW.PrintWords.Aside0.mk hp1; clear hS hp1))
        go_meet
        exact ⟨d1, T2, hz1, HP1⟩
      · have hr : ¬ (i < m ∧ m < e) := of_decide_eq_false hbv.out.symm
        have HN := YtbgmnmjokdfmlaaDoorW.PrintWords.Aside0.mk hr
        clear hr
        go_wp2
        go_meet
        exact ⟨d, T1, hs, ⟨fun t => by rw [rho_none i m e t him e3 (by have := HN.out; omega)]⟩⟩
    case rest =>
      obtain ⟨d1, T2, hz1, HP1⟩ := hcut
      refine hK2 _ _ ?_
      exact symMerge.t41 g cf key blk off cap d0 w0 R hsz n IH.out a m b q i e d _ hn hs hm hb q1 q2 hs0i him E1 e3 e4 e5 e6 SA.out SB.out HLL.out HRR.out d1 hz1 HP1.out T2.out
end Go.Proofs.YtbgmnmjokdfmlaaDoor.PA
namespace Go.Proofs.YtbgmnmjokdfmlaaDoor.PA
open Go.Shelf Go.RowKit Go.Lib Go.Sort
set_option linter.unusedVariables false
set_option linter.unusedSimpArgs false
set_option maxHeartbeats 16000000 in
set_option maxRecDepth 1000000 in
theorem symMerge.hi (g : Nat) (cf : S54 → S54 → Int) (key : S54 → Int) (hcf : ∀ x y, cf x y < 0 ↔ key x < key y) (eg : ∀ args w, (callFunc g args).run Tryd.prog w = .ok (.enter g args) w)
    (blk off cap : Nat) (d0 : Array S54) (w0 : World) (R : RowK encJ 2 w0 blk off d0) (hC : CmpLays Tryd.prog g #[] encJ 2 cf blk off d0.size w0) (hsz : d0.size < 4611686018427387904) (n : Nat) (hIH : SymAt g cf key blk off cap d0 w0 n)
    (a m b : Nat) (d : Array S54) (w : World) (hn : b - a ≤ n + 1) (hs : d.size = d0.size) (S : SWK encJ 2 w0 blk off d w) (h1 : m ≠ a + 1) (h2 : b ≠ m + 1) (ha : a < m) (hm : m < b) (hb : b ≤ d0.size) (hq : (a + b) / 2 < m) (hA : Srt key d a m) (hB : Srt key d m b) :
    Calls Tryd.prog 122 #[.slice (some ⟨blk, off, none⟩) d0.size cap, .int .i64 a, .int .i64 m, .int .i64 b, .func (.func g) #[] #[]] w fun e w' => e = .returned (.tuple #[]) ∧ ∃ d', SWK encJ 2 w0 blk off d' w' ∧ MG key d a b d' ∧ Srt key d' a b := by
  have mixed : Tryd.prog.follows .mixedOrders = true := by kernel_rfl
  have S0 : Aside (SWK encJ 2 w0 blk off d w) := S
  have HC := YtbgmnmjokdfmlaaDoorW.PrintWords.Aside0.mk hC
  have HCF := YtbgmnmjokdfmlaaDoorW.PrintWords.Aside0.mk hcf
  have SA := YtbgmnmjokdfmlaaDoorW.PrintWords.Aside0.mk hA
  have SB := YtbgmnmjokdfmlaaDoorW.PrintWords.Aside0.mk hB
  have IH := YtbgmnmjokdfmlaaDoorW.PrintWords.Aside0.mk hIH
  clear S hC hcf hA hB hIH
  have h1z : ¬ (m : Int) - (a : Int) = 1 := by omega
  have h1b : ((m : Int) - (a : Int) == 1) = false := beq_eq_false_iff_ne.2 h1z
  have h2z : ¬ (b : Int) - (m : Int) = 1 := by omega
  have h2b : ((b : Int) - (m : Int) == 1) = false := beq_eq_false_iff_ne.2 h2z
  obtain ⟨q, hqd⟩ : ∃ q, q = (a + b) / 2 := ⟨_, rfl⟩
  have Q : ((a : Int) + (b : Int)) / 2 = (q : Int) := by omega
  have q1 : 2 * q ≤ a + b := by omega
  have q2 : a + b ≤ 2 * q + 1 := by omega
  rw [← hqd] at hq
  clear hqd h1 h2
  obtain ⟨s0, hs0⟩ : ∃ s0, s0 = q + m - b := ⟨_, rfl⟩
  have Z0 : (q : Int) + (m : Int) - (b : Int) = (s0 : Int) := by omega
  have Z1 : s0 + b = q + m := by omega
  have Z2 : (m : Int) > (q : Int) := by omega
  clear hs0
  go_enter Tryd.func122, Tryd.ntmps122
  go_wp2
  go_loopg [20, 21] (q - s0) (fun kx s20 s21 wr => ∃ (i j : Nat), s20 = .int .i64 i ∧ s21 = .int .i64 j ∧ s0 ≤ i ∧ i ≤ j ∧ j ≤ q ∧ j - i ≤ kx ∧ Aside (SWK encJ 2 w0 blk off d wr) ∧ Aside (s0 < i → key d[i - 1]! ≤ key d[q + m - i]!) ∧ Aside (j < q → key d[q + m - 1 - j]! < key d[j]!))
  case atStart => exact ⟨s0, q, rfl, rfl, Nat.le_refl _, by omega, Nat.le_refl _, Nat.le_refl _, S0, (fun h => by omega), (fun h => by omega)⟩
  case round =>
    clear S0
    obtain ⟨i, j, rfl, rfl, hai, hij, hjb, hkx, S1, HL, HR⟩ := hrel
    by_cases hlt : i < j
    · have hltz : (i : Int) < (j : Int) := by omega
      obtain ⟨c, hcd⟩ : ∃ c, c = (i + j) / 2 := ⟨_, rfl⟩
      have C : ((i : Int) + (j : Int)) / 2 = (c : Int) := by omega
      have c1' : i ≤ c := by omega
      have c2' : c < j := by omega
      clear hcd
      obtain ⟨pc, hpd⟩ : ∃ pc, pc = q + m - 1 - c := ⟨_, rfl⟩
      have PC : (q : Int) + (m : Int) - 1 - (c : Int) = (pc : Int) := by omega
      have pc1 : pc < d0.size := by omega
      have R1 : IntKind.i64.wrap ((q : Int) + (m : Int) - 1 - (c : Int)) = (pc : Int) := by rw [PC, IntKind.wrap_i64]; omega
      have R2 : IntKind.i64.wrap (pc : Int) = (pc : Int) := by rw [IntKind.wrap_i64]; omega
      have pc2 : (pc : Int) < (d0.size : Int) := by omega
      have cc2 : (c : Int) < (d0.size : Int) := by omega
      have c0 := fun n' os' => (swk_gcell S1.out R hs pc (by omega) n' os').1
      have c1 := fun n' os' => (swk_gcell S1.out R hs pc (by omega) n' os').2
      have e0 := fun n' os' => (swk_gcell S1.out R hs c (by omega) n' os').1
      have e1 := fun n' os' => (swk_gcell S1.out R hs c (by omega) n' os').2
      have hc := fun n' os' => swk_cmp S1.out HC.out hs d[pc]! d[c]! n' os'
      have HPD := YtbgmnmjokdfmlaaDoorW.PrintWords.Aside0.mk hpd
      clear hpd
      cases hv : decide (cf d[pc]! d[c]! < 0) with
      | false =>
        have HX := YtbgmnmjokdfmlaaDoorW.PrintWords.Aside0.mk (fun h => of_decide_eq_false hv ((HCF.out _ _).2 h))
        generalize d[pc]! = x at c0 c1 hc hv
        generalize d[c]! = y at e0 e1 hc hv
        go_wp2_with fail
        go_quiet_grown (first | (go_at_fn g; refine Calls.grown_of (hc _ _)))
        have S2 : Aside (SWK encJ 2 w0 blk off d (grow (wr.drewN nq) osq)) := S1.out.grown nq osq
        clear c0 c1 e0 e1 hc S1
        generalize grow (wr.drewN nq) osq = w2 at S2 ⊢
        clear nq osq
        go_wp2
        go_roundg (j - (c + 1))
        case measure => omega
        case rel => exact ⟨c + 1, j, by go_num, rfl, by omega, by omega, hjb, Nat.le_refl _, S2, (fun _ => by rw [show c + 1 - 1 = c from rfl, show q + m - (c + 1) = pc from by rw [HPD.out]; omega]; exact Int.not_lt.1 HX.out), HR⟩
      | true =>
        have HX := YtbgmnmjokdfmlaaDoorW.PrintWords.Aside0.mk ((HCF.out _ _).1 (of_decide_eq_true hv))
        generalize d[pc]! = x at c0 c1 hc hv
        generalize d[c]! = y at e0 e1 hc hv
        go_wp2_with fail
        go_quiet_grown (first | (go_at_fn g; refine Calls.grown_of (hc _ _)))
        have S2 : Aside (SWK encJ 2 w0 blk off d (grow (wr.drewN nq) osq)) := S1.out.grown nq osq
        clear c0 c1 e0 e1 hc S1
        generalize grow (wr.drewN nq) osq = w2 at S2 ⊢
        clear nq osq
        go_wp2
        go_roundg (c - i)
        case measure => omega
        case rel => exact ⟨i, c, rfl, rfl, hai, by omega, by omega, Nat.le_refl _, S2, HL, (fun _ => by rw [← HPD.out]; exact HX.out)⟩
    · obtain rfl : i = j := by omega
      have hltz : ¬ (i : Int) < (i : Int) := by omega
      have hs0i : a ≤ i := by omega
      have him : i ≤ m := by omega
      obtain ⟨e, hed⟩ : ∃ e, e = q + m - i := ⟨_, rfl⟩
      have E : (q : Int) + (m : Int) - (i : Int) = (e : Int) := by omega
      have E1 : e + i = q + m := by omega
      have HL' : a < i → e < b → key d[i - 1]! ≤ key d[e]! := fun h1 h2 => by rw [hed]; exact HL.out (by omega)
      have HR' : i < m → m < e → key d[e - 1]! < key d[i]! := fun h1 h2 => by rw [hed, show q + m - i - 1 = q + m - 1 - i from by omega]; exact HR.out (by omega)
      have HLL := YtbgmnmjokdfmlaaDoorW.PrintWords.Aside0.mk HL'
      have HRR := YtbgmnmjokdfmlaaDoorW.PrintWords.Aside0.mk HR'
      have e3 : m ≤ e := by omega
      have e4 : e ≤ b := by omega
      have e5 : i ≤ q := by omega
      have e6 : q ≤ e := by omega
      clear HL HR hed HL' HR'
      go_upto_region 38 with (fail)
      rename_i hK
      have HE := YtbgmnmjokdfmlaaDoorW.PrintWords.Aside0.mk E
      go_cut [24] (fun v wx => v = .int .i64 (e : Int) ∧ YtbgmnmjokdfmlaaDoorW.PrintWords.Aside0 (wx = wr))
      case first =>
        go_wp2_with fail
        go_meet
        exact ⟨rfl, ⟨rfl⟩⟩
      case rest =>
        obtain ⟨rfl, hw1⟩ := hcut
        have T0 : SWK encJ 2 w0 blk off d wc := by rw [hw1.out]; exact S1
        refine hK _ _ ?_
        exact symMerge.t39 g cf key blk off cap d0 w0 R hsz n IH.out a m b q i e d wc hn hs T0 hm hb q1 q2 hs0i him E1 e3 e4 e5 e6 SA.out SB.out HLL.out HRR.out
set_option maxHeartbeats 16000000 in
set_option maxRecDepth 1000000 in
theorem symMerge.lo (g : Nat) (cf : S54 → S54 → Int) (key : S54 → Int) (hcf : ∀ x y, cf x y < 0 ↔ key x < key y) (eg : ∀ args w, (callFunc g args).run Tryd.prog w = .ok (.enter g args) w)
    (blk off cap : Nat) (d0 : Array S54) (w0 : World) (R : RowK encJ 2 w0 blk off d0) (hC : CmpLays Tryd.prog g #[] encJ 2 cf blk off d0.size w0) (hsz : d0.size < 4611686018427387904) (n : Nat) (hIH : SymAt g cf key blk off cap d0 w0 n)
    (a m b : Nat) (d : Array S54) (w : World) (hn : b - a ≤ n + 1) (hs : d.size = d0.size) (S : SWK encJ 2 w0 blk off d w) (h1 : m ≠ a + 1) (h2 : b ≠ m + 1) (ha : a < m) (hm : m < b) (hb : b ≤ d0.size) (hq : m ≤ (a + b) / 2) (hA : Srt key d a m) (hB : Srt key d m b) :
    Calls Tryd.prog 122 #[.slice (some ⟨blk, off, none⟩) d0.size cap, .int .i64 a, .int .i64 m, .int .i64 b, .func (.func g) #[] #[]] w fun e w' => e = .returned (.tuple #[]) ∧ ∃ d', SWK encJ 2 w0 blk off d' w' ∧ MG key d a b d' ∧ Srt key d' a b := by
  have mixed : Tryd.prog.follows .mixedOrders = true := by kernel_rfl
  have S0 : Aside (SWK encJ 2 w0 blk off d w) := S
  have HC := YtbgmnmjokdfmlaaDoorW.PrintWords.Aside0.mk hC
  have HCF := YtbgmnmjokdfmlaaDoorW.PrintWords.Aside0.mk hcf
  have SA := YtbgmnmjokdfmlaaDoorW.PrintWords.Aside0.mk hA
  have SB := YtbgmnmjokdfmlaaDoorW.PrintWords.Aside0.mk hB
  have IH := YtbgmnmjokdfmlaaDoorW.PrintWords.Aside0.mk hIH
  clear S hC hcf hA hB hIH
  have h1z : ¬ (m : Int) - (a : Int) = 1 := by omega
  have h1b : ((m : Int) - (a : Int) == 1) = false := beq_eq_false_iff_ne.2 h1z
  have h2z : ¬ (b : Int) - (m : Int) = 1 := by omega
  have h2b : ((b : Int) - (m : Int) == 1) = false := beq_eq_false_iff_ne.2 h2z
  obtain ⟨q, hqd⟩ : ∃ q, q = (a + b) / 2 := ⟨_, rfl⟩
  have Q : ((a : Int) + (b : Int)) / 2 = (q : Int) := by omega
  have q1 : 2 * q ≤ a + b := by omega
  have q2 : a + b ≤ 2 * q + 1 := by omega
  rw [← hqd] at hq
  clear hqd h1 h2
  have Z2 : ¬ (m : Int) > (q : Int) := by omega
  go_enter Tryd.func122, Tryd.ntmps122
  go_wp2
  go_loopg [20, 21] (m - a) (fun kx s20 s21 wr => ∃ (i j : Nat), s20 = .int .i64 i ∧ s21 = .int .i64 j ∧ a ≤ i ∧ i ≤ j ∧ j ≤ m ∧ j - i ≤ kx ∧ Aside (SWK encJ 2 w0 blk off d wr) ∧ Aside (a < i → key d[i - 1]! ≤ key d[q + m - i]!) ∧ Aside (j < m → key d[q + m - 1 - j]! < key d[j]!))
  case atStart => exact ⟨a, m, rfl, rfl, Nat.le_refl _, by omega, Nat.le_refl _, Nat.le_refl _, S0, (fun h => by omega), (fun h => by omega)⟩
  case round =>
    clear S0
    obtain ⟨i, j, rfl, rfl, hai, hij, hjb, hkx, S1, HL, HR⟩ := hrel
    by_cases hlt : i < j
    · have hltz : (i : Int) < (j : Int) := by omega
      obtain ⟨c, hcd⟩ : ∃ c, c = (i + j) / 2 := ⟨_, rfl⟩
      have C : ((i : Int) + (j : Int)) / 2 = (c : Int) := by omega
      have c1' : i ≤ c := by omega
      have c2' : c < j := by omega
      clear hcd
      obtain ⟨pc, hpd⟩ : ∃ pc, pc = q + m - 1 - c := ⟨_, rfl⟩
      have PC : (q : Int) + (m : Int) - 1 - (c : Int) = (pc : Int) := by omega
      have pc1 : pc < d0.size := by omega
      have R1 : IntKind.i64.wrap ((q : Int) + (m : Int) - 1 - (c : Int)) = (pc : Int) := by rw [PC, IntKind.wrap_i64]; omega
      have R2 : IntKind.i64.wrap (pc : Int) = (pc : Int) := by rw [IntKind.wrap_i64]; omega
      have pc2 : (pc : Int) < (d0.size : Int) := by omega
      have cc2 : (c : Int) < (d0.size : Int) := by omega
      have c0 := fun n' os' => (swk_gcell S1.out R hs pc (by omega) n' os').1
      have c1 := fun n' os' => (swk_gcell S1.out R hs pc (by omega) n' os').2
      have e0 := fun n' os' => (swk_gcell S1.out R hs c (by omega) n' os').1
      have e1 := fun n' os' => (swk_gcell S1.out R hs c (by omega) n' os').2
      have hc := fun n' os' => swk_cmp S1.out HC.out hs d[pc]! d[c]! n' os'
      have HPD := YtbgmnmjokdfmlaaDoorW.PrintWords.Aside0.mk hpd
      clear hpd
      cases hv : decide (cf d[pc]! d[c]! < 0) with
      | false =>
        have HX := YtbgmnmjokdfmlaaDoorW.PrintWords.Aside0.mk (fun h => of_decide_eq_false hv ((HCF.out _ _).2 h))
        generalize d[pc]! = x at c0 c1 hc hv
        generalize d[c]! = y at e0 e1 hc hv
        go_wp2_with fail
        go_quiet_grown (first | (go_at_fn g; refine Calls.grown_of (hc _ _)))
        have S2 : Aside (SWK encJ 2 w0 blk off d (grow (wr.drewN nq) osq)) := S1.out.grown nq osq
        clear c0 c1 e0 e1 hc S1
        generalize grow (wr.drewN nq) osq = w2 at S2 ⊢
        clear nq osq
        go_wp2
        go_roundg (j - (c + 1))
        case measure => omega
        case rel => exact ⟨c + 1, j, by go_num, rfl, by omega, by omega, hjb, Nat.le_refl _, S2, (fun _ => by rw [show c + 1 - 1 = c from rfl, show q + m - (c + 1) = pc from by rw [HPD.out]; omega]; exact Int.not_lt.1 HX.out), HR⟩
      | true =>
        have HX := YtbgmnmjokdfmlaaDoorW.PrintWords.Aside0.mk ((HCF.out _ _).1 (of_decide_eq_true hv))
        generalize d[pc]! = x at c0 c1 hc hv
        generalize d[c]! = y at e0 e1 hc hv
        go_wp2_with fail
        go_quiet_grown (first | (go_at_fn g; refine Calls.grown_of (hc _ _)))
        have S2 : Aside (SWK encJ 2 w0 blk off d (grow (wr.drewN nq) osq)) := S1.out.grown nq osq
        clear c0 c1 e0 e1 hc S1
        generalize grow (wr.drewN nq) osq = w2 at S2 ⊢
        clear nq osq
        go_wp2
        go_roundg (c - i)
        case measure => omega
        case rel => exact ⟨i, c, rfl, rfl, hai, by omega, by omega, Nat.le_refl _, S2, HL, (fun _ => by rw [← HPD.out]; exact HX.out)⟩
    · obtain rfl : i = j := by omega
      have hltz : ¬ (i : Int) < (i : Int) := by omega
      have hs0i : a ≤ i := by omega
      have him : i ≤ m := by omega
      obtain ⟨e, hed⟩ : ∃ e, e = q + m - i := ⟨_, rfl⟩
      have E : (q : Int) + (m : Int) - (i : Int) = (e : Int) := by omega
      have E1 : e + i = q + m := by omega
      have HL' : a < i → e < b → key d[i - 1]! ≤ key d[e]! := fun h1 h2 => by rw [hed]; exact HL.out (by omega)
      have HR' : i < m → m < e → key d[e - 1]! < key d[i]! := fun h1 h2 => by rw [hed, show q + m - i - 1 = q + m - 1 - i from by omega]; exact HR.out (by omega)
      have HLL := YtbgmnmjokdfmlaaDoorW.PrintWords.Aside0.mk HL'
      have HRR := YtbgmnmjokdfmlaaDoorW.PrintWords.Aside0.mk HR'
      have e3 : m ≤ e := by omega
      have e4 : e ≤ b := by omega
      have e5 : i ≤ q := by omega
      have e6 : q ≤ e := by omega
      clear HL HR hed HL' HR'
      go_upto_region 38 with (fail)
      rename_i hK
      have HE := YtbgmnmjokdfmlaaDoorW.PrintWords.Aside0.mk E
      go_cut [24] (fun v wx => v = .int .i64 (e : Int) ∧ YtbgmnmjokdfmlaaDoorW.PrintWords.Aside0 (wx = wr))
      case first =>
        go_wp2_with fail
        go_meet
        exact ⟨rfl, ⟨rfl⟩⟩
      case rest =>
        obtain ⟨rfl, hw1⟩ := hcut
        have T0 : SWK encJ 2 w0 blk off d wc := by rw [hw1.out]; exact S1
        refine hK _ _ ?_
        exact symMerge.t39 g cf key blk off cap d0 w0 R hsz n IH.out a m b q i e d wc hn hs T0 hm hb q1 q2 hs0i him E1 e3 e4 e5 e6 SA.out SB.out HLL.out HRR.out
theorem symMerge.step (g : Nat) (cf : S54 → S54 → Int) (key : S54 → Int) (hcf : ∀ x y, cf x y < 0 ↔ key x < key y) (eg : ∀ args w, (callFunc g args).run Tryd.prog w = .ok (.enter g args) w)
    (blk off cap : Nat) (d0 : Array S54) (w0 : World) (R : RowK encJ 2 w0 blk off d0) (hC : CmpLays Tryd.prog g #[] encJ 2 cf blk off d0.size w0) (hsz : d0.size < 4611686018427387904) (n : Nat) (hIH : SymAt g cf key blk off cap d0 w0 n) : SymAt g cf key blk off cap d0 w0 (n + 1) := by
  intro a m b d w hn hs S ha hm hb hA hB
  by_cases h1 : m = a + 1
  · exact symMerge.left g cf key hcf eg blk off cap d0 w0 R hC hsz a m b d w h1 hs S (by omega) hb (by rw [← h1]; exact hB)
  · by_cases h2 : b = m + 1
    · exact symMerge.right g cf key hcf eg blk off cap d0 w0 R hC hsz a m b d w h2 hs S h1 ha hb hA
    · by_cases hq : (a + b) / 2 < m
      · exact symMerge.hi g cf key hcf eg blk off cap d0 w0 R hC hsz n hIH a m b d w hn hs S h1 h2 ha hm hb hq hA hB
      · exact symMerge.lo g cf key hcf eg blk off cap d0 w0 R hC hsz n hIH a m b d w hn hs S h1 h2 ha hm hb (by omega) hA hB
theorem symMerge.calls (g : Nat) (cf : S54 → S54 → Int) (key : S54 → Int) (hcf : ∀ x y, cf x y < 0 ↔ key x < key y) (eg : ∀ args w, (callFunc g args).run Tryd.prog w = .ok (.enter g args) w)
    (blk off cap : Nat) (d0 : Array S54) (w0 : World) (R : RowK encJ 2 w0 blk off d0) (hC : CmpLays Tryd.prog g #[] encJ 2 cf blk off d0.size w0) (hsz : d0.size < 4611686018427387904) : ∀ n, SymAt g cf key blk off cap d0 w0 n
  | 0 => fun a m b d w hn hs S ha hm hb hA hB => by omega
  | n + 1 => symMerge.step g cf key hcf eg blk off cap d0 w0 R hC hsz n (symMerge.calls g cf key hcf eg blk off cap d0 w0 R hC hsz n)
end Go.Proofs.YtbgmnmjokdfmlaaDoor.PA

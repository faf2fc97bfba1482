/- The row and the card of the law ChunkTwice, out of its walk: for every input the law answers true and its arguments stay; no condition of its own. The row's frame is the guide's; written by a program of this session (wip/mkrow.py). -/
import Derived.Test.YtbgmnmjokdfmlaaDoorZJ1
import Derived.Test.YtbgmnmjokdfmlaaDoorZJ2
import Derived.Test.YtbgmnmjokdfmlaaDoorZJ3
import Derived.Test.YtbgmnmjokdfmlaaDoorZJ4
import Derived.Test.YtbgmnmjokdfmlaaDoorZJ5
import Derived.Test.YtbgmnmjokdfmlaaDoorZJ6
import Derived.Test.YtbgmnmjokdfmlaaDoorZJ7
import Derived.Test.YtbgmnmjokdfmlaaDoorZJ8
import Derived.Test.YtbgmnmjokdfmlaaDoorProg
import Derived.Below
import Derived.Deep.Draws
import Derived.Deep.AppendLies
import Derived.Maps.AppendAt
import Derived.OwnWalk
import Derived.Laws.BytesArg
import Derived.Laws.MakeOwn
import Derived.Laws.OwnMore
import Derived.Deep.OwnRows
import Derived.Tactics
import Derived.Lib.ConvBytes
import Derived.Laws.Slices
import Derived.WalkKit
import Derived.KernelRfl
import Derived.RowKit3
import Derived.Deep.LoopGhost
import Derived.Deep.QuietTactic
import Derived.BigQuiet
import Derived.WideLaws
import Derived.Deep.DeepCutAuto
import Derived.Deep.CutBlock
import Derived.Deep.RegionHeld3
import Derived.Laws.Rows
import Derived.Lib.AppendStr
import Derived.ArgAppend
import Derived.Laws.IdiomCopy
import Derived.OrdersHeld
import Derived.Laws.BitsLemmas
import Derived.RowKit
import Derived.Test.YtbgmnmjokdfmlaaDoorZT1
import Derived.Laws.StructEq
import Derived.Laws.BitsAllLaws
import Derived.Lib.Hide
import Derived.Deep.DeepMust
import Derived.Laws.RangeAny
import Derived.Laws.Cover1
import Derived.StillTailTactics
import Derived.WalkSpells
import Derived.Deep.RegionWith
import Derived.Shelf.Spec.TrailingZeros
import Derived.Lib.Strings
import Derived.Lib.Slices
import Derived.Lib.Small
import Derived.Lib.Walk
import Derived.Lib.BitFns
import Derived.WalkMore
import Derived.RangeFuncNested
import Derived.RangeFuncBound
import Derived.RangeFuncCalls
import Derived.RangeFuncLeaves
import Derived.Shelf.Abstract
import Derived.Shelf.RegionOpen
import Derived.OwnWalkIn
import Derived.TacticsInMore
import Derived.LoopNIn
import Derived.LoopIn
import Derived.Lib.QuietBelowIn
import Derived.OrdersIn
import Derived.RangeFuncKeeps
import Derived.Tactics2
import Derived.RegionTactic
import Derived.Deep.RegionLaw
import Derived.RangeFuncFrom
import Derived.BigRegion
import Derived.Test.YtbgmnmjokdfmlaaDoorZT2
import Derived.Test.YtbgmnmjokdfmlaaDoorRows
import Derived.Test.YtbgmnmjokdfmlaaDoorCards
import Derived.Test.YtbgmnmjokdfmlaaDoorTie
import Derived.ProofKit
import Derived.OpenShut
import Derived.ShutString
import Derived.ChangeOld
import Derived.SizedLaws
import Derived.Deep.DeepHandedRow
import Derived.Lib.LaidTab
import Derived.Lib.SmallJoins
import Derived.ChangeSlices
import Derived.ChangeSame
import Derived.Deep.Slices
import Derived.Deep.Fields
namespace Go.Proofs.YtbgmnmjokdfmlaaDoor.PA
set_option linter.unusedVariables false
set_option linter.unusedSimpArgs false
theorem tot_append : ∀ a b : List S60, tot (a ++ b) = tot a + tot b
  | [], b => by simp [tot]
  | x :: a, b => by rw [List.cons_append, tot, tot, tot_append a b]; omega
theorem tot_join {l : List S60} {m : Nat} (h : tot l ≤ m) : tot (joinL l) ≤ l.length * m :=
  Nat.le_trans (tot_le (fun x hx => Nat.le_trans (joinL_mem hx).2 h)) (Nat.mul_le_mul_right m (joinL_len l))
open Go.RowKit Go.Proofs.YtbgmnmjokdfmlaaDoor.G Go.Proofs.YtbgmnmjokdfmlaaDoorW.PrintWords Go.Proofs.YtbgmnmjokdfmlaaDoorW.PrintLast Go.Proofs.YtbgmnmjokdfmlaaDoorW.PrintMore in
theorem join.to {l : List S60} (L : List S60) (hL : joinL l = L) (A : Option Addr) (c n : Nat) (w : World) (hn : l.length = n) (hr : Kd.C k60 w A n l) (hlen : n ≤ 100000) (htot : tot l ≤ 1000000) (hlab : ∀ x ∈ l, x.f0.length ≤ 1000000) :
    Calls Tryd.prog 25 #[.slice A n c] w fun e w' => ∃ (A' : Option Addr) (c' : Nat), e = .returned (.slice A' L.length c') ∧ L.length ≤ c' ∧ Kd.C k60 w' A' L.length L ∧ Below w.heap.size w w' := by
  subst hL
  exact join.calls A c n l w hn hr hlen htot hlab
end Go.Proofs.YtbgmnmjokdfmlaaDoor.PA
namespace Go.Proofs.YtbgmnmjokdfmlaaDoor.G.ChunkTwice
open Go.RowKit Go.Proofs.YtbgmnmjokdfmlaaDoor.PA Go.Proofs.YtbgmnmjokdfmlaaDoor.G Go.Proofs.YtbgmnmjokdfmlaaDoorW.PrintWords Go.Proofs.YtbgmnmjokdfmlaaDoorW.PrintLast Go.Proofs.YtbgmnmjokdfmlaaDoorW.PrintMore
set_option linter.unusedVariables false
set_option linter.unusedSimpArgs false
set_option maxHeartbeats 8000000 in
set_option maxRecDepth 100000 in
theorem walk (A : Option Addr) (c : Nat) (l : List S60) (Ab : Option Addr) (cb : Nat) (lb : List S60) (w : World) (hr : Kd.C k60 w A l.length l) (hc : l.length ≤ c) (hw : okW l ∧ l.length * 48 ≤ 140737488355328) (hrb : Kd.C k60 w Ab lb.length lb) (hcb : lb.length ≤ cb) (hwb : okW lb ∧ lb.length * 48 ≤ 140737488355328) (hT : TabZ w) :
    Calls Tryd.prog 7 #[.slice A l.length c, .slice Ab lb.length cb] w fun e w' => e = .returned (.bool true) ∧ Below w.heap.size w w' := by
  obtain ⟨r, hf, hr8, hP⟩ := few_L l (by omega) 6 20
  obtain ⟨q, hg, hq8, hQ⟩ := few_L lb (by omega) 6 20
  have H20 : Aside0 (∀ x ∈ r, x.f0.length ≤ 10 ∧ x.f1.length ≤ 20) := ⟨fun x hx => (hP x hx).2⟩
  have G20 : Aside0 (∀ x ∈ q, x.f0.length ≤ 10 ∧ x.f1.length ≤ 20) := ⟨fun x hx => (hQ x hx).2⟩
  have H8 := Aside0.mk hr8
  have G8 := Aside0.mk hq8
  have FEW := Aside0.mk (dryrotplain_Few.calls (l.length + 1) (fun k => k < w.heap.size) A c l 6 20 r w (Kd.V_mk hc (Kd.C_F kS_heapJ hr)) hf)
  have FEW2 := Aside0.mk (fun W (hb : Below w.heap.size w W) => dryrotplain_Few.calls (lb.length + 1) (fun k => k < W.heap.size) Ab cb lb 6 20 q W (Kd.V_mk hcb (Kd.C_F kS_heapJ (Kd.C_below hrb hb))) hg)
  have HT := Aside0.mk hT
  have ta : tot r ≤ 120 := Nat.le_trans (tot_le (fun x hx => (H20.out x hx).2)) (Nat.mul_le_mul_right 20 hr8)
  have tb : tot q ≤ 120 := Nat.le_trans (tot_le (fun x hx => (G20.out x hx).2)) (Nat.mul_le_mul_right 20 hq8)
  have lab : ∀ x ∈ r ++ q, x.f0.length ≤ 10 := fun x hx => by
    rcases List.mem_append.1 hx with h | h
    · exact (H20.out x h).1
    · exact (G20.out x h).1
  have tab : tot (r ++ q) ≤ 240 := by rw [tot_append]; omega
  have lenab : (r ++ q).length ≤ 12 := by rw [List.length_append]; omega
  have HA : Aside0 (tot r ≤ 1000000) := ⟨Nat.le_trans ta (by decide)⟩
  have HA2 : Aside0 (tot q ≤ 1000000) := ⟨Nat.le_trans tb (by decide)⟩
  have HN : Aside0 ((r ++ q).length ≤ 100000 ∧ tot (r ++ q) ≤ 1000000 ∧ ∀ x ∈ r ++ q, x.f0.length ≤ 1000000) := ⟨Nat.le_trans lenab (by decide), Nat.le_trans tab (by decide), fun x hx => Nat.le_trans (lab x hx) (by decide)⟩
  have tj1 : tot (joinL r) ≤ 720 := Nat.le_trans (tot_join ta) (Nat.mul_le_mul_right 120 hr8)
  have tj2 : tot (joinL q) ≤ 720 := Nat.le_trans (tot_join tb) (Nat.mul_le_mul_right 120 hq8)
  have HM : Aside0 ((joinL r ++ joinL q).length ≤ 100000 ∧ tot (joinL r ++ joinL q) ≤ 1000000 ∧ ∀ x ∈ joinL r ++ joinL q, x.f0.length ≤ 1000000) := ⟨by
    have h1 := joinL_len r
    have h2 := joinL_len q
    rw [List.length_append]
    omega, by rw [tot_append]; omega, fun x hx => by
    rcases List.mem_append.1 hx with h | h
    · exact (join_ok (fun x hx => (H20.out x hx).1) HA.out x h).1
    · exact (join_ok (fun x hx => (G20.out x hx).1) HA2.out x h).1⟩
  have HS : Aside0 ((joinL (r ++ q)).length ≤ 1000000 ∧ okSer (joinL (r ++ q))) := ⟨Nat.le_trans (joinL_len _) (Nat.le_trans lenab (by decide)), join_ok lab HN.out.2.1⟩
  have HS4 : Aside0 (∀ x ∈ joinL (r ++ q), x.f0.length ≤ 1000000) := ⟨fun x hx => (HS.out.2 x hx).1⟩
  have HT4 : Aside0 (tot (joinL (r ++ q)) ≤ 1000000) := ⟨Nat.le_trans (tot_join tab) (Nat.le_trans (Nat.mul_le_mul_right 240 lenab) (by decide))⟩
  have HN0 : Aside0 (r.length + q.length ≤ 100000) := ⟨by rw [← List.length_append]; exact HN.out.1⟩
  have HM0 : Aside0 ((joinL r).length + (joinL q).length ≤ 100000) := ⟨by rw [← List.length_append]; exact HM.out.1⟩
  clear hr hc hw hT hf hr8 hP hrb hcb hwb hg hq8 hQ ta tb lab tab lenab tj1 tj2
  go_enter Tryd.func7, Tryd.ntmps7
  go_wp2_with (first | (go_at_call 13; (with_reducible refine FEW.out.mono ?_); rintro e w1 ⟨v1, rfl, hn, hb⟩; obtain ⟨A1, c1, rfl, hc1, hC1⟩ := Kd.N_reads hn; have HO1 := Aside0.mk hC1; have HL1 := Aside0.mk hc1; have HB := Aside0.mk hb; clear hn hc1 hC1 hb FEW) | (go_at_call 13; (with_reducible refine (FEW2.out _ HB.out).mono ?_); rintro e w2 ⟨v2, rfl, hn, hb⟩; obtain ⟨A2, c2, rfl, hc1, hC1⟩ := Kd.N_reads hn; have HO1 := Aside0.mk (Kd.C_below HO1.out hb); have HO2 := Aside0.mk hC1; have HL2 := Aside0.mk hc1; have HB := Aside0.mk (below_step HB.out hb); clear hn hc1 hC1 hb FEW2) | (go_at_call 27; (with_reducible refine (concatS.calls _ A1 A2 r.length q.length c1 c2 r q _ rfl rfl (Kd.C_alloc HO1.out _) (Kd.C_alloc HO2.out _) (blk_new _ _) (Nat.le_trans H8.out (by decide)) (Nat.le_trans G8.out (by decide))).mono ?_); rintro e w3 ⟨B3, d3, rfl, hc2, hr2, hb⟩; have HO1 := Aside0.mk (Kd.C_below (Kd.C_alloc HO1.out _) hb); have HO2 := Aside0.mk (Kd.C_below (Kd.C_alloc HO2.out _) hb); have HJ3 := Aside0.mk hr2; have HB := Aside0.mk (below_step (below_alloc HB.out _) hb); clear hr2 hc2 hb) | (go_at_call 25; (with_reducible refine (join.calls B3 d3 (r.length + q.length) (r ++ q) _ (List.length_append ..) HJ3.out HN0.out HN.out.2.1 HN.out.2.2).mono ?_); rintro e w4 ⟨B4, d4, rfl, hc2, hr2, hb⟩; have HO1 := Aside0.mk (Kd.C_below HO1.out hb); have HO2 := Aside0.mk (Kd.C_below HO2.out hb); have HJ4 := Aside0.mk hr2; have HD4 := Aside0.mk hc2; have HB := Aside0.mk (below_step HB.out hb); clear hr2 hc2 hb) | (go_at_call 25; (with_reducible refine (join.calls A1 c1 r.length r _ rfl HO1.out (Nat.le_trans H8.out (by decide)) HA.out (fun x hx => Nat.le_trans (H20.out x hx).1 (by decide))).mono ?_); rintro e w5 ⟨B5, d5, rfl, hc2, hr2, hb⟩; have HO2 := Aside0.mk (Kd.C_below HO2.out hb); have HJ4 := Aside0.mk (Kd.C_below HJ4.out hb); have HJ5 := Aside0.mk hr2; have HD5 := Aside0.mk hc2; have HB := Aside0.mk (below_step HB.out hb); clear hr2 hc2 hb) | (go_at_call 25; (with_reducible refine (join.calls A2 c2 q.length q _ rfl HO2.out (Nat.le_trans G8.out (by decide)) HA2.out (fun x hx => Nat.le_trans (G20.out x hx).1 (by decide))).mono ?_); rintro e w6 ⟨B6, d6, rfl, hc2, hr2, hb⟩; have HJ4 := Aside0.mk (Kd.C_below HJ4.out hb); have HJ5 := Aside0.mk (Kd.C_below HJ5.out hb); have HJ6 := Aside0.mk hr2; have HD6 := Aside0.mk hc2; have HB := Aside0.mk (below_step HB.out hb); clear hr2 hc2 hb) | (go_at_call 27; (with_reducible refine (concatS.calls _ B5 B6 (joinL r).length (joinL q).length d5 d6 (joinL r) (joinL q) _ rfl rfl (Kd.C_alloc HJ5.out _) (Kd.C_alloc HJ6.out _) (blk_new _ _) (Nat.le_trans (joinL_len r) (Nat.le_trans H8.out (by decide))) (Nat.le_trans (joinL_len q) (Nat.le_trans G8.out (by decide)))).mono ?_); rintro e w7 ⟨B7, d7, rfl, hc2, hr2, hb⟩; have HJ4 := Aside0.mk (Kd.C_below (Kd.C_alloc HJ4.out _) hb); have HJ7 := Aside0.mk hr2; have HB := Aside0.mk (below_step (below_alloc HB.out _) hb); clear hr2 hc2 hb) | (go_at_call 25; (with_reducible refine (join.to (joinL (r ++ q)) (join_join r q) B7 d7 ((joinL r).length + (joinL q).length) _ (List.length_append ..) HJ7.out HM0.out HM.out.2.1 HM.out.2.2).mono ?_); rintro e w8 ⟨B8, d8, rfl, hc2, hr2, hb⟩; have HJ4 := Aside0.mk (Kd.C_below HJ4.out hb); have HJ8 := Aside0.mk hr2; have HD8 := Aside0.mk hc2; have HB := Aside0.mk (below_step HB.out hb); clear hr2 hc2 hb) | (go_at_call 24; (with_reducible refine (sameSer.calls B4 B8 d4 d8 (joinL (r ++ q)).length (joinL (r ++ q)) _ rfl HJ4.out HJ8.out HS.out.1 HS.out.2).mono ?_); rintro e w9 ⟨rfl, hb⟩; have HJ4 := Aside0.mk (Kd.C_below HJ4.out hb); have HB := Aside0.mk (below_step HB.out hb); clear hb) | (go_at_call 25; (with_reducible refine (join.to (joinL (r ++ q)) (join_again (r ++ q)) B4 d4 (joinL (r ++ q)).length _ rfl HJ4.out (Nat.le_trans (joinL_len _) HN.out.1) HT4.out HS4.out).mono ?_); rintro e w10 ⟨B10, d10, rfl, hc2, hr2, hb⟩; have HJ4 := Aside0.mk (Kd.C_below HJ4.out hb); have HJ10 := Aside0.mk hr2; have HD10 := Aside0.mk hc2; have HB := Aside0.mk (below_step HB.out hb); clear hr2 hc2 hb) | (go_at_call 24; (with_reducible refine (sameSer.calls B10 B4 d10 d4 (joinL (r ++ q)).length (joinL (r ++ q)) _ rfl HJ10.out HJ4.out HS.out.1 HS.out.2).mono ?_); rintro e w11 ⟨rfl, hb⟩; have HB := Aside0.mk (below_step HB.out hb); clear hb) | (go_at_call 12; (with_reducible refine (PA.cawake.calls _ (HT.out.below HB.out)).mono ?_); rintro e w12 ⟨rfl, hb⟩; have HB := Aside0.mk (below_step HB.out hb); clear hb))
  go_ret
  exact ⟨rfl, HB.out⟩
end Go.Proofs.YtbgmnmjokdfmlaaDoor.G.ChunkTwice
namespace Go.Proofs.YtbgmnmjokdfmlaaDoor.chunkTwice
open Go.ChangeShapes Go.WideShapes Go.ChangeAt Go.RowKit
open Go.ChangeMaps (open_string shut_string)
open Go.Proofs.YtbgmnmjokdfmlaaDoorW
set_option linter.unusedVariables false
set_option linter.unusedSimpArgs false
theorem own : ownKnob Tryd.prog.godebug = none := by kernel_rfl
theorem laidOut : laidOutB Tryd.prog = true := by kernel_rfl
def IsRow (k : IntKind) (w : World) (a : Option Addr) (len cap : Nat) (zs : List Int) : Prop :=
  (a = none ∧ len = 0 ∧ cap = 0 ∧ zs = []) ∨
  ∃ x, a = some x ∧ len ≤ cap ∧ cap ≤ maxLen ∧ zs.length = cap ∧ (∀ i, i < zs.length → w.cell? (x.add i) = some (.int k (zs.getD i 0))) ∧ ∀ n ∈ zs, (Lit.int k n).wf = true
theorem g_deBruijn64tab : Tryd.prog.globalNamed "math/bits.deBruijn64tab" = some 0 := by kernel_rfl
theorem t_deBruijn64tab : (Tryd.prog.globals[0]?).map (·.type) = some 156 := by kernel_rfl
theorem c_deBruijn64tab : Tryd.prog.cellsOf 156 = 64 := by kernel_rfl
theorem e_deBruijn64tab : Tryd.prog.cellsOf 5 = 1 := by kernel_rfl
theorem tab_deBruijn64tab {W : World} (h : laidMetH Tryd.prog Rows.chunkTwiceRow.laid W) : Lib.TabIs Tryd.prog W "math/bits.deBruijn64tab" .u8 [0, 1, 56, 2, 57, 49, 28, 3, 61, 58, 42, 50, 38, 29, 17, 4, 62, 47, 59, 36, 45, 43, 51, 22, 53, 39, 33, 30, 24, 18, 12, 5, 63, 55, 48, 27, 60, 41, 37, 16, 46, 35, 44, 21, 52, 32, 23, 11, 54, 26, 40, 15, 34, 20, 31, 10, 25, 14, 19, 9, 13, 8, 7, 6] :=
  Lib.tabIs_of_head (rest := _) g_deBruijn64tab t_deBruijn64tab Tryd.underlying156 Tryd.underlying5 e_deBruijn64tab c_deBruijn64tab h
theorem db_tab : ∀ j, j < 64 → ([0, 1, 56, 2, 57, 49, 28, 3, 61, 58, 42, 50, 38, 29, 17, 4, 62, 47, 59, 36, 45, 43, 51, 22, 53, 39, 33, 30, 24, 18, 12, 5, 63, 55, 48, 27, 60, 41, 37, 16, 46, 35, 44, 21, 52, 32, 23, 11, 54, 26, 40, 15, 34, 20, 31, 10, 25, 14, 19, 9, 13, 8, 7, 6] : List Int).getD j 0 = ((Lib.deBruijn64tab.getD j 0 : Nat) : Int) := by decide
noncomputable def laidWorld (os : Os) : World :=
  { World.holding Tryd.prog os ⟨#[], #[], []⟩ with heap := ((World.holding Tryd.prog os ⟨#[], #[], []⟩).heap).modify 0 fun
      | .cells _ t frozen => .cells #[.int .u8 0, .int .u8 1, .int .u8 56, .int .u8 2, .int .u8 57, .int .u8 49, .int .u8 28, .int .u8 3, .int .u8 61, .int .u8 58, .int .u8 42, .int .u8 50, .int .u8 38, .int .u8 29, .int .u8 17, .int .u8 4, .int .u8 62, .int .u8 47, .int .u8 59, .int .u8 36, .int .u8 45, .int .u8 43, .int .u8 51, .int .u8 22, .int .u8 53, .int .u8 39, .int .u8 33, .int .u8 30, .int .u8 24, .int .u8 18, .int .u8 12, .int .u8 5, .int .u8 63, .int .u8 55, .int .u8 48, .int .u8 27, .int .u8 60, .int .u8 41, .int .u8 37, .int .u8 16, .int .u8 46, .int .u8 35, .int .u8 44, .int .u8 21, .int .u8 52, .int .u8 32, .int .u8 23, .int .u8 11, .int .u8 54, .int .u8 26, .int .u8 40, .int .u8 15, .int .u8 34, .int .u8 20, .int .u8 31, .int .u8 10, .int .u8 25, .int .u8 14, .int .u8 19, .int .u8 9, .int .u8 13, .int .u8 8, .int .u8 7, .int .u8 6] t frozen
      | o => o }
theorem laid_met (os : Os) : laidMet Tryd.prog Rows.chunkTwiceRow.laid ((laidWorld os).forCall (fun _ _ => 0) ⟨#[], #[.slice none 0 0, .slice none 0 0], []⟩).memory :=
  laidMet_of_run' 8 (by kernel_rfl) (by kernel_rfl)
theorem reads (os : Os) {H : Type} (enc : TypeId × Value → H) : ∃ places, DataW.whole enc Tryd.prog ((laidWorld os).forCall (fun _ _ => 0) ⟨#[], #[.slice none 0 0, .slice none 0 0], []⟩).memory Tryd.f7.params.toList Rows.chunkTwiceSpec.vars false #[(Value.slice none 0 0), .slice none 0 0].toList 8 = some ([.nil, .nil], [], places) :=
  ⟨[], by kernel_rfl⟩
theorem weights_tail {H : Type} {P : Program} {t : TypeId} {ts : List TypeId} {d : DataW H} {ds : List (DataW H)} (h : (DataW.weightsEach P (t :: ts) (d :: ds)).all (· ≤ reachBytes) = true) : (DataW.weightsEach P ts ds).all (· ≤ reachBytes) = true := by
  rw [DataW.weightsEach, List.all_append, Bool.and_eq_true] at h
  exact h.2
set_option maxRecDepth 100000 in
theorem lifted (os : Os) (started : os.Started) (H : Type) (enc : TypeId × Value → H) (F : Stop.Interp) :
    ReturnsInHanded {} Tryd.checked os 7 .any ((OpenSpec.ofChange Rows.chunkTwiceSpec).preRow enc Tryd.prog Tryd.f7 Rows.chunkTwiceRow.domain false Rows.chunkTwiceRow.laid) (((OpenSpec.ofChange Rows.chunkTwiceSpec).at F).post enc Tryd.prog Tryd.f7 false true false false) := by
  obtain ⟨places, hx⟩ := reads os enc
  refine returnsInHanded_of_row (C := Tryd.checked) (s := (OpenSpec.ofChange Rows.chunkTwiceSpec)) own started (by kernel_rfl) Tryd.func7
    (witness_row_at (enc := enc) (C := Tryd.checked) false (laidWorld os) #[.slice none 0 0, .slice none 0 0] rfl (by kernel_rfl) (by kernel_rfl) (by kernel_rfl)
      (OpenSpec.preRow_of_cond 8 hx (by kernel_rfl) (fun k hk => by cases hk) (by kernel_rfl) (laid_met os))) ?_
  intro W base args ds gs before hval0 hW _ hcond hsz0 hL _ _
  have hsz : (DataW.weightsEach Tryd.prog (Tryd.f7.params.toList ++ Rows.chunkTwiceSpec.plain.varTypes Tryd.prog) (ds ++ gs)).all (· ≤ reachBytes) = true := hsz0
  have hval : ∀ (j : Nat) t v, Tryd.f7.params[j]? = some t → args[j]? = some v → Value.okWide Tryd.prog W .any base t v := hval0
  have hW' := hW
  obtain ⟨p, q, hA0, hV, rfl, hfz, hnd⟩ := hW
  have hA : DataW.TrodAll enc Tryd.prog W 0 (fun _ => true) true Tryd.f7.params.toList args.toList ds p := hA0
  rw [Tryd.params7] at hA hval hsz
  obtain ⟨v0, vs0, d0, ds0, p0, q0, hargs, rfl, rfl, h0, r0⟩ := trodAll_cons hA
  obtain ⟨v1, vs1, d1, ds1, p1, q1, rfl, rfl, rfl, h1, r1⟩ := trodAll_cons r0
  obtain ⟨rfl, rfl, rfl⟩ := trodAll_nil r1
  obtain rfl : args = #[v0, v1] := by cases args; simp_all
  obtain ⟨rfl, rfl⟩ := trodVars_none hV
  have k0 := h0
  have lt0 : ∀ x ∈ p0, x.block < W.heap.size := by obtain ⟨m, hm⟩ := k0; exact DataW.trod_lt m _ _ _ hm
  obtain ⟨a0, cap0, l0, rfl, hr0, hc0, hw0⟩ := G.open_rowsS38 (okWide_slice Tryd.underlying38 (hval 0 38 v0 rfl rfl)) hsz h0
  have k1 := h1
  have lt1 : ∀ x ∈ p1, x.block < W.heap.size := by obtain ⟨m, hm⟩ := k1; exact DataW.trod_lt m _ _ _ hm
  obtain ⟨a1, cap1, l1, rfl, hr1, hc1, hw1⟩ := G.open_rowsS38 (okWide_slice Tryd.underlying38 (hval 1 38 v1 rfl rfl)) (weights_tail hsz) h1
  have T_deBruijn64tab := tab_deBruijn64tab hL
  clear hA0 hval0 hsz0 hsz
  refine (G.ChunkTwice.walk a0 cap0 l0 a1 cap1 l1 W hr0 hc0 hw0 hr1 hc1 hw1 (⟨fun j hj => (T_deBruijn64tab.cell g_deBruijn64tab j hj).trans (congrArg (fun z : Int => some (Value.int .u8 z)) (db_tab j hj))⟩)).mono fun e W' ⟨he, bel⟩ => ?_
  subst he
  exact ⟨_, rfl, _, _, _, [], _, [], hW', trodAll_mk1 (shut_bool Tryd.underlying4 _), (trodAll_cons_mk (Below.trod laidOut (by kernel_rfl) (of_decide_eq_true (by kernel_rfl)) k0 bel lt0) (trodAll_cons_mk (Below.trod laidOut (by kernel_rfl) (of_decide_eq_true (by kernel_rfl)) k1 bel lt1) trodAll_mk0)), rfl, bel.frame _, fun h => by cases h⟩
theorem said : Rows.ChunkTwiceSaid :=
  OpenClaim.holds_of_cond 7 Tryd.f7 rfl rfl rfl rfl rfl rfl rfl ⟨rfl, rfl, rfl, rfl, rfl⟩ rfl rfl rfl rfl rfl (by kernel_rfl) Tryd.func7 (by kernel_rfl)
    (of_decide_eq_true (by kernel_rfl)) (by unfold Func.isWrapper; first | (rw [if_pos (by decide +kernel)]; kernel_rfl) | (rw [if_neg (by decide +kernel)]; exact ⟨rfl, rfl⟩))
    (fun os started H enc _ F => by rw [OpenClaim.pre_eq_preRow]; exact lifted os started H enc F)
set_option maxRecDepth 100000 in
theorem plain (f : FuncId) (fn : Func) (hf : Tryd.pinned.checked.prog.funcNamed "dryrot/dryrotlaw12.ChunkTwice" = some f) (hfn : Tryd.pinned.checked.prog.funcs[f]? = some fn) :
    false = Tryd.pinned.checked.prog.looks [] ∧ ∀ (j : Nat) t, fn.params[j]? = some t → Tryd.pinned.checked.prog.wantsStandIn t = false := by
  obtain rfl : f = 7 := Option.some.inj ((show Tryd.prog.funcNamed "dryrot/dryrotlaw12.ChunkTwice" = some 7 by kernel_rfl).symm.trans hf) |>.symm
  obtain rfl : fn = Tryd.f7 := (Option.some.inj (Tryd.func7.symm.trans hfn)).symm
  refine ⟨by kernel_rfl, fun j t ht => ?_⟩
  rw [Tryd.params7] at ht
  have ht := Array.mem_of_getElem? ht
  simp only [List.mem_toArray, List.mem_cons, List.not_mem_nil, or_false] at ht
  rcases ht with rfl | rfl
  all_goals first | exact (show Tryd.prog.wantsStandIn 38 = false by kernel_rfl)
theorem proved : Rows.ChunkTwiceCardSaid :=
  Claim7.holds_tied_plain_at .later [] _ _ _ _ said (fun _ h => by cases h) (by kernel_rfl) (fun _ h => by cases h) chunkTwice_row_tie rfl ⟨rfl, rfl⟩ (by kernel_rfl) rfl plain (by kernel_rfl)
#print axioms proved
end Go.Proofs.YtbgmnmjokdfmlaaDoor.chunkTwice

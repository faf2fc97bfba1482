/- The contract of extent.Frame: an extent's bytes in a row of the call's own, or the error. -/
import Derived.Test.YtmaoleabfmokpaaDoorEBuild
namespace Go.Proofs.YtmaoleabfmokpaaDoor.G
open Go.RowKit Go.Proofs.YtmaoleabfmokpaaDoorW.PrintWords Go.Proofs.YtmaoleabfmokpaaDoorW.PrintLast Go.Proofs.YtmaoleabfmokpaaDoorW.PrintMore
set_option linter.unusedVariables false
set_option linter.unusedSimpArgs false

/-- what may be framed -/
def okF (idx gen : Int) (n : Nat) : Bool := decide (0 ≤ idx) && decide (idx ≤ 2147483647) && decide (0 ≤ gen) && decide (gen ≤ 4611686018427387904) && decide (n ≤ 106)
theorem okF_iff {idx gen : Int} {n : Nat} : okF idx gen n = true ↔ (0 ≤ idx ∧ idx ≤ 2147483647) ∧ (0 ≤ gen ∧ gen ≤ 4611686018427387904) ∧ n ≤ 106 := by
  simp only [okF, Bool.and_eq_true, decide_eq_true_eq]
  omega
/-- a block of bytes reads as the row -/
theorem row_C {W : World} {g : Nat} {L : List Int} {t : TypeId} {fr : Nat × Nat} (h : W.heap[g]? = some (.cells (cellsOf L) t fr)) (hl : L.length ≤ 9223372036854775807) : (Kd.int .u8).C W (some ⟨g, 0, none⟩) L.length L := by
  refine Kd.C_of_reads (d := (0 : Int)) (h1 := fun _ => rfl) ⟨rfl, hl, fun _ => ⟨_, rfl, fun j hj => ?_⟩⟩
  rw [show (Addr.add ⟨g, 0, none⟩ j) = ⟨g, j, none⟩ from by rw [add_plain]]
  exact ((cell_of_row W g j _ t fr h).trans (cells_get L j hj)).trans (by simp [rd])

theorem store_block {W : World} {g : Nat} (h : W.heap[g]? = some (.cells (cellsOf (List.replicate 128 0)) 48 (0, 0))) (L' : List Int) (hl : L'.length = 128) : (storeVar 48 ⟨g, 0, none⟩ (.agg (cellsOf L'))).run Tryd.prog W = .ok () (W.setRow g (cellsOf L')) :=
  run_storeVar_row W _ _ 48 _ _ h (image_size L' hl) (by simp [cellsOf, hl]) (by simp [cellsOf, Value.oneCell'])
set_option maxHeartbeats 4000000 in
set_option maxRecDepth 100000 in
theorem extent_Frame.calls_bad (s : ByteArray) (idx gen : Int) (A : Option Addr) (c n : Nat) (w : World) (h : okF idx gen n = false) :
    Calls Tryd.prog 23 #[.string s, .int .i64 idx, .int .i64 gen, .slice A n c] w fun e w' => e = .returned (.tuple #[.slice none 0 0, .int .i64 1]) ∧ Below w.heap.size w w' := by
  have H := Aside0.mk h
  clear h
  by_cases h1 : idx < 0
  · have d1 : decide (idx < 0) = true := decide_eq_true h1
    clear h1
    go_enter Tryd.func23, Tryd.ntmps23
    go_wp2
    refine bodyPost_ret (results_tmp2 rfl _ _ _) rfl ?_
    exact ⟨rfl, Below.refl _ _⟩
  have d1 : decide (idx < 0) = false := decide_eq_false h1
  by_cases h2 : 2147483647 < idx
  · have d2 : decide (2147483647 < idx) = true := decide_eq_true h2
    clear h1 h2
    go_enter Tryd.func23, Tryd.ntmps23
    go_wp2
    refine bodyPost_ret (results_tmp2 rfl _ _ _) rfl ?_
    exact ⟨rfl, Below.refl _ _⟩
  have d2 : decide (2147483647 < idx) = false := decide_eq_false h2
  by_cases h3 : gen < 0
  · have d3 : decide (gen < 0) = true := decide_eq_true h3
    clear h1 h2 h3
    go_enter Tryd.func23, Tryd.ntmps23
    go_wp2
    refine bodyPost_ret (results_tmp2 rfl _ _ _) rfl ?_
    exact ⟨rfl, Below.refl _ _⟩
  have d3 : decide (gen < 0) = false := decide_eq_false h3
  by_cases h4 : 4611686018427387904 < gen
  · have d4 : decide (4611686018427387904 < gen) = true := decide_eq_true h4
    clear h1 h2 h3 h4
    go_enter Tryd.func23, Tryd.ntmps23
    go_wp2
    refine bodyPost_ret (results_tmp2 rfl _ _ _) rfl ?_
    exact ⟨rfl, Below.refl _ _⟩
  have d4 : decide (4611686018427387904 < gen) = false := decide_eq_false h4
  have h5 : 106 < n := by
    have := H.out
    unfold okF at this
    simp only [Bool.and_eq_false_iff, decide_eq_false_iff_not] at this
    omega
  have d5 : decide ((106 : Int) < (n : Int)) = true := decide_eq_true (by omega)
  clear h1 h2 h3 h4 h5
  go_enter Tryd.func23, Tryd.ntmps23
  go_wp2
  refine bodyPost_ret (results_tmp2 rfl _ _ _) rfl ?_
  exact ⟨rfl, Below.refl _ _⟩

set_option maxHeartbeats 4000000 in
set_option maxRecDepth 100000 in
theorem extent_Frame.calls_ok (s : ByteArray) (idx gen : Int) (A : Option Addr) (c : Nat) (l : List Int) (w : World) (hr : Kd.C (Kd.int .u8) w A l.length l) (hc : l.length ≤ c) (hok : okB l = true) (hs : s.size ≤ 140737488351232) (hT : TabQ w) (h : okF idx gen l.length = true) :
    Calls Tryd.prog 23 #[.string s, .int .i64 idx, .int .i64 gen, .slice A l.length c] w fun e w' => ∃ g, w.heap.size ≤ g ∧ e = .returned (.tuple #[.slice (some ⟨g, 0, none⟩) 128 128, .int .i64 0]) ∧ w'.heap[g]? = some (.cells (cellsOf (imageB s idx gen l)) 48 (0, 0)) ∧ Below w.heap.size w w' := by
  obtain ⟨hi, hg, hl⟩ := okF_iff.1 h
  have HR := Aside0.mk hr
  have HC := Aside0.mk hc
  have HI := Aside0.mk hi
  have HG := Aside0.mk hg
  have HL := Aside0.mk hl
  have HT := Aside0.mk hT
  have d1 : decide (idx < 0) = false := decide_eq_false (by omega)
  have d2 : decide (2147483647 < idx) = false := decide_eq_false (by omega)
  have d3 : decide (gen < 0) = false := decide_eq_false (by omega)
  have d4 : decide (4611686018427387904 < gen) = false := decide_eq_false (by omega)
  have d5 : decide ((106 : Int) < (l.length : Int)) = false := decide_eq_false (by omega)
  clear hr hc hi hg hl hT h
  have hz := zero_image
  go_enter Tryd.func23, Tryd.ntmps23
  go_wp2_with (first
    | (go_at_call 28; (with_reducible refine (extent_build.calls s idx gen _ _ l _ HR.out HC.out hok HL.out HI.out HG.out hs HT.out).mono ?_); rintro e w1 ⟨rfl, hb⟩; have HB := Aside0.mk hb; clear hb)
    | ((with_reducible refine gate_dst (N := 10) rfl ?_); refine box_event ?hg (N := 10) ?hd (cs := cellsOf (List.replicate 128 0)) (t := 48) ?hr ?_; (case hd => rfl); (case hg => rfl); (case hr => first | (go_simp; done) | (go_simp; rfl)); intro g hg w2 hbox hb; have HB' := Aside0.mk (below_step HB.out hb); have BK := Aside0.mk hbox; have GE : Aside0 (w.heap.size ≤ g) := ⟨by have := HB.out.size; omega⟩; clear hb hbox hg)
    | ((with_reducible refine gate_store rfl ?_); refine wp_store rfl 48 (.tmp 10) (.tmp 34) rfl _ rfl _ rfl _ (store_block BK.out (imageB s idx gen l) (image_length s idx gen l HL.out)) ?_))
  refine bodyPost_ret (results_tmp2 rfl _ _ _) rfl ?_
  exact ⟨g, GE.out, rfl, setRow_heap _ _ _ _ _ _ BK.out, below_setRow HB'.out GE.out _⟩
end Go.Proofs.YtmaoleabfmokpaaDoor.G

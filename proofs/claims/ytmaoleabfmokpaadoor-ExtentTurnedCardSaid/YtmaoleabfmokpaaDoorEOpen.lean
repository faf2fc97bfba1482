/- The contract of extent.Open: what bytes hold as a file's extent, or the error. -/
import Derived.Test.YtmaoleabfmokpaaDoorEFrame
import Derived.Test.YtmaoleabfmokpaaDoorGGet
import Derived.ChangeKeysEq
import Derived.Deep.MidRow
import Derived.Laws.Cover3
namespace Go.Proofs.YtmaoleabfmokpaaDoor.G
open Go.RowKit Go.Proofs.YtmaoleabfmokpaaDoorW.PrintWords Go.Proofs.YtmaoleabfmokpaaDoorW.PrintLast Go.Proofs.YtmaoleabfmokpaaDoorW.PrintMore
set_option linter.unusedVariables false
set_option linter.unusedSimpArgs false

/-! ### arrays of bytes side by side -/
theorem eq_byte (d : Nat) (w : World) (a b : Int) : (Op.equalIn (d + 1) 5 (.int .u8 a) (.int .u8 b)).run Tryd.prog w = .ok (a == b) w := by
  simp [Op.equalIn, run_underlying Tryd.underlying5]
theorem eq_items (d : Nat) (w : World) (X Y : List Int) (hX : X.length = 128) (hY : Y.length = 128) : ∀ is : List Nat, (∀ i ∈ is, i < 128) →
    (Op.eqItems (d + 1) 5 1 (cellsOf X) (cellsOf Y) is).run Tryd.prog w = .ok (is.all fun i => rd X (i : Int) == rd Y (i : Int)) w
  | [], _ => by simp [Op.eqItems]
  | i :: is, h => by
    have hi := h i (by simp)
    have hp : Tryd.prog.plainKey 5 = true := by kernel_rfl
    have h1 := run_part_plain (P := Tryd.prog) (w := w) hp (xs := cellsOf X) (off := i) (cells_get X i (by omega))
    have h2 := run_part_plain (P := Tryd.prog) (w := w) hp (xs := cellsOf Y) (off := i) (cells_get Y i (by omega))
    have ih := eq_items d w X Y hX hY is (fun j hj => h j (by simp [hj]))
    simp only [Op.eqItems, Nat.mul_one, Sem.run_bind, h1, h2, Result.andThen_ok, eq_byte, List.all_cons]
    cases hb : (rd X (i : Int) == rd Y (i : Int))
    · simp
    · simpa using ih
theorem all_eq (X Y : List Int) (hX : X.length = 128) (hY : Y.length = 128) : ((List.range 128).all fun i => rd X (i : Int) == rd Y (i : Int)) = decide (X = Y) := by
  rw [Bool.eq_iff_iff, List.all_eq_true, decide_eq_true_iff]
  constructor
  · intro h
    apply List.ext_getElem (by omega)
    intro i h1 h2
    have := h i (List.mem_range.2 (by omega))
    simpa [rd, List.getD_eq_getElem?_getD, List.getElem?_eq_getElem h1, List.getElem?_eq_getElem h2] using this
  · rintro rfl i _
    simp
theorem eq_images (w : World) (X Y : List Int) (hX : X.length = 128) (hY : Y.length = 128) (b : Bool) (hb : decide (X = Y) = b) : (Op.equalIn 10000 48 (.agg (cellsOf X)) (.agg (cellsOf Y))).run Tryd.prog w = .ok b w := by
  obtain ⟨i0, hi, _, hsz, _⟩ := info_parts infoU8
  have hc : Tryd.prog.cellsOf 5 = 1 := by kernel_rfl
  rw [run_equalIn_array (P := Tryd.prog) w 9999 (cellsOf X) (cellsOf Y) Tryd.underlying48 hi, hc, eq_items 9998 w X Y hX hY _ (fun i h => List.mem_range.1 h), all_eq X Y hX hY, hb]
theorem load_arg {W : World} {ad : Addr} {b : List Int} (hb : b.length = 128) (h : (Kd.int .u8).C W (some ad) b.length b) : (Instr.loadAt 48 (.pointer (some ad))).run Tryd.prog W = .ok (.agg (cellsOf b)) W := by
  have hl : (loadCells ad (b.map (Value.int .u8)).length).run Tryd.prog W = .ok (b.map (Value.int .u8)).toArray W :=
    run_loadCells_list (P := Tryd.prog) W ad (b.map (Value.int .u8)) (fun j v hv => by
      rw [List.getElem?_map] at hv
      obtain ⟨x, hx, rfl⟩ := Option.map_eq_some_iff.1 hv
      have hjl := (List.getElem?_eq_some_iff.1 hx).1
      obtain ⟨ad', cs, e, _, hK, hc⟩ := Kd.C_get h (0 : Int) (j : Int) (by omega) (by omega)
      obtain rfl := Option.some.inj e
      have hk : cs = [.int .u8 x] := by
        have e2 : b.getD (j : Int).toNat 0 = x := by simp [List.getD_eq_getElem?_getD, hx]
        rw [e2] at hK
        exact hK
      subst hk
      have := hc 0 _ rfl
      rwa [Int.toNat_natCast, show (Kd.int .u8).sz = 1 from rfl, Nat.mul_one, Nat.add_zero] at this)
  have hi : (Tryd.prog.info? 48).map (·.size) = some 128 := by kernel_rfl
  have hlen : (b.map (Value.int .u8)).length = 128 := by rw [List.length_map, hb]
  rw [hlen] at hl
  have hv : (loadVar 48 ad).run Tryd.prog W = .ok (.agg (cellsOf b)) W := by
    cases hq : Tryd.prog.info? 48 with
    | none => simp [hq] at hi
    | some i =>
      have hs : i.size = 128 := by simpa [hq] using hi
      have hagg : (isAgg 48).run Tryd.prog W = .ok true W := by
        unfold isAgg
        simp only [Sem.run_bind, run_underlying Tryd.underlying48, Result.andThen_ok]
        rfl
      simp [loadVar, Sem.run_bind, hagg, sizeOf, typeInfo, hq, hs, hl, cellsOf]
  simp only [Instr.loadAt, Instr.sureAddr, Sem.run_bind, Sem.run_pure, Result.andThen_ok, hv]

/-! ### what is opened -/
def lenO (b : List Int) : Nat := (rd b 17).toNat
def genO (b : List Int) : Nat := beV 0 ((b.take 17).drop 9)
def loadO (b : List Int) : List Int := (b.take (18 + lenO b)).drop 18
def okO1 (b : List Int) (idx : Int) : Bool := decide (b.length = 128) && decide (lenO b ≤ 106) && decide (0 ≤ idx) && decide (idx ≤ 2147483647)
def okO2 (b : List Int) : Bool := decide (genO b ≤ 4611686018427387904)
def okO3 (b : List Int) (s : ByteArray) (idx : Int) : Bool := decide (imageB s idx (genO b) (loadO b) = b)
def okO (b : List Int) (s : ByteArray) (idx : Int) : Bool := okO1 b idx && okO2 b && okO3 b s idx
def openL (b : List Int) (s : ByteArray) (idx : Int) : List Int × Int × Int := if okO b s idx = true then (loadO b, genO b, 0) else ([], 0, 40)

theorem exec_load {P : Program} {o : Oper} {a : Act} {W : World} {t : TypeId} {x : Operand} (hop : o.op = Op.load t x) {p : Addr} (hx : a.eval x = .pointer (some p)) {v : Value}
    (hrun : (Instr.loadAt t (.pointer (some p))).run P W = .ok v W) : (execOp a.eval o).run P W = .ok (.value v) W := by
  simp [execOp, hop, hx, hrun, Result.andThen]
theorem cell_alloc_old {w : World} {a : Addr} {v : Value} (o : Obj) (h : w.cell? a = some v) : (w.alloc o).cell? a = some v := pw_cell_below (below_alloc (Below.refl _ _) o) h
theorem crc_Get.calls_at {n : Nat} (A0 : Option Addr) (c0 : Nat) (l0 : List Int) (r1 : Int) (r2 : Bool) (w : World) (hn : l0.length = n) (hr0 : Kd.C (Kd.int .u8) w A0 l0.length l0) (hc0 : l0.length ≤ c0) (h : crc_Get.f l0 = some (r1, r2)) :
    Calls Tryd.prog 19 #[.slice A0 n c0] w fun e w' => e = .returned (.tuple #[.int .u64 r1, .bool r2]) ∧ Drawn0 w w' := by
  subst hn
  exact crc_Get.calls A0 c0 l0 r1 r2 w hr0 hc0 h
set_option maxHeartbeats 4000000 in
set_option maxRecDepth 100000 in
theorem extent_Open.calls (A : Option Addr) (c : Nat) (b : List Int) (s : ByteArray) (idx : Int) (w : World) (hr : Kd.C (Kd.int .u8) w A b.length b) (hc : b.length ≤ c) (hok : okB b = true) (hs : s.size ≤ 140737488351232) (hT : TabQ w) :
    Calls Tryd.prog 24 #[.slice A b.length c, .string s, .int .i64 idx] w fun e w' => ∃ v, e = .returned (.tuple #[v, .int .i64 (openL b s idx).2.1, .int .i64 (openL b s idx).2.2]) ∧ Kd.R (Kd.int .u8) 5 w' w.heap.size (fun _ => True) v (openL b s idx).1 ∧ Below w.heap.size w w' := by
  have hbyte := okB_iff.1 hok
  by_cases hb : b.length = 128
  case neg =>
    have e0 : openL b s idx = ([], 0, 40) := by rw [openL, if_neg (by simp [okO, okO1, hb])]
    rw [e0]
    have d0 : ((b.length : Int) != 128) = true := bne_iff_ne.2 (by omega)
    clear hr hT hbyte e0 hc
    go_enter Tryd.func24, Tryd.ntmps24
    go_wp2
    refine bodyPost_ret (results_tmp3 rfl _ _ _) rfl ?_
    exact ⟨_, rfl, Kd.R_nil _ _ _ _ _, Below.refl _ _⟩
  case pos =>
  have d0 : ((b.length : Int) != 128) = false := bne_eq_false_iff_eq.2 (by omega)
  have HR := Aside0.mk hr
  have HBL := Aside0.mk hb
  obtain ⟨ad, cs17, rfl, _, hK17, hc17⟩ := Kd.C_get hr (0 : Int) 17 (by omega) (by omega)
  have h17 : w.cell? ⟨ad.block, ad.off + 17, none⟩ = some (.int .u8 (rd b 17)) := by
    have hk : cs17 = [.int .u8 (rd b 17)] := hK17
    subst hk
    have := hc17 0 _ rfl
    simpa [Addr.add, Kd.int, Kd.scalar] using this
  have hn := hbyte (rd b 17) (rd_mem b 17 (by omega))
  have HLO : Aside0 (rd b 17 = (lenO b : Int)) := ⟨by unfold lenO; omega⟩
  clear hK17 hc17 hr
  have HC := Aside0.mk hc
  have HT := Aside0.mk hT
  have HOK := Aside0.mk hok
  by_cases h1 : 106 < rd b 17
  · have hnl : ¬ lenO b ≤ 106 := by have := HLO.out; omega
    have e0 : openL b s idx = ([], 0, 40) := by rw [openL, if_neg (by simp [okO, okO1, hnl])]
    clear hnl
    rw [e0]
    have d1 : decide (106 < rd b 17) = true := decide_eq_true h1
    clear e0 hbyte hT hc hok h1
    generalize rd b 17 = n17 at *
    go_enter Tryd.func24, Tryd.ntmps24
    go_wp2
    refine bodyPost_ret (results_tmp3 rfl _ _ _) rfl ?_
    exact ⟨_, rfl, Kd.R_nil _ _ _ _ _, Below.refl _ _⟩
  have d1 : decide (106 < rd b 17) = false := decide_eq_false h1
  by_cases h2 : idx < 0
  · have e0 : openL b s idx = ([], 0, 40) := by rw [openL, if_neg (by simp [okO, okO1, show ¬ 0 ≤ idx by omega])]
    rw [e0]
    have d2 : decide (idx < 0) = true := decide_eq_true h2
    clear e0 hbyte hT hc hok h1 h2
    generalize rd b 17 = n17 at *
    go_enter Tryd.func24, Tryd.ntmps24
    go_wp2
    refine bodyPost_ret (results_tmp3 rfl _ _ _) rfl ?_
    exact ⟨_, rfl, Kd.R_nil _ _ _ _ _, Below.refl _ _⟩
  have d2 : decide (idx < 0) = false := decide_eq_false h2
  by_cases h3 : 2147483647 < idx
  · have e0 : openL b s idx = ([], 0, 40) := by rw [openL, if_neg (by simp [okO, okO1, show ¬ idx ≤ 2147483647 by omega])]
    rw [e0]
    have d3 : decide (2147483647 < idx) = true := decide_eq_true h3
    clear e0 hbyte hT hc hok h1 h2 h3
    generalize rd b 17 = n17 at *
    go_enter Tryd.func24, Tryd.ntmps24
    go_wp2
    refine bodyPost_ret (results_tmp3 rfl _ _ _) rfl ?_
    exact ⟨_, rfl, Kd.R_nil _ _ _ _ _, Below.refl _ _⟩
  have d3 : decide (2147483647 < idx) = false := decide_eq_false h3
  -- the generation
  have HOK1 : Aside0 (okO1 b idx = true) := ⟨by
    have := HLO.out
    simp only [okO1, Bool.and_eq_true, decide_eq_true_eq]
    omega⟩
  have HG : Aside0 (okB ((b.take 17).drop 9) = true ∧ ((b.take 17).drop 9).length = 8) := ⟨okB_iff.2 (fun x hx => hbyte x (List.mem_of_mem_take (List.mem_of_mem_drop hx))), by rw [List.length_drop, List.length_take]; omega⟩
  have HGF : Aside0 (crc_Get.f ((b.take 17).drop 9) = some (((genO b : Nat) : Int), true)) := ⟨by rw [crc_Get.f, if_pos HG.out.1, if_pos (by have := HG.out.2; omega)]; rfl⟩
  have hc8 := Kd.C_mid (c := c) (lo := 9) (hi := 17) HR.out (by decide) (by omega) hc
  rw [if_neg (by omega)] at hc8
  have HC8 := Aside0.mk (show (Kd.int .u8).C w (some ⟨ad.block, ad.off + 9, none⟩) _ _ from hc8)
  obtain ⟨i05, hi05, _, hsz5, _⟩ := info_parts infoU8
  have hcut9 := cut_mid (P := Tryd.prog) 22 5 .i64 .i64 Tryd.underlying22 hi05 1 hsz5 (some ad) b.length c 9 17 (by decide) (by decide) (by omega) hc
  have hcut18 := cut_mid (P := Tryd.prog) 22 5 .i64 .i64 Tryd.underlying22 hi05 1 hsz5 (some ad) b.length c 18 (18 + (lenO b : Int)) (by decide) (by omega) (by have := HLO.out; omega) hc
  have hc18 := Kd.C_mid (c := c) (lo := 18) (hi := 18 + lenO b) HR.out (by omega) (by have := HLO.out; omega) hc
  rw [if_neg (by omega)] at hc18
  have HC18 := Aside0.mk (show (Kd.int .u8).C w (some ⟨ad.block, ad.off + 18, none⟩) (loadO b).length (loadO b) from hc18)
  have HLL : Aside0 ((loadO b).length = lenO b) := ⟨by have := HLO.out; rw [loadO, List.length_drop, List.length_take]; omega⟩
  have HLK : Aside0 (okB (loadO b) = true) := ⟨okB_iff.2 (fun x hx => hbyte x (List.mem_of_mem_take (List.mem_of_mem_drop hx)))⟩
  have hnl : (lenO b : Int) ≤ 106 := by have := HLO.out; omega
  have h17' := h17
  rw [HLO.out] at h17' d1
  have HI : Aside0 (0 ≤ idx ∧ idx ≤ 2147483647) := ⟨by omega⟩
  clear hc8 hc18 hi05 hbyte hok hT h1 h2 h3 hn h17
  obtain ⟨G, hG⟩ : ∃ G, genO b = G := ⟨_, rfl⟩
  rw [hG] at HGF
  have HGE := Aside0.mk hG
  clear hG
  by_cases h4 : 4611686018427387904 < G
  · have e0 : openL b s idx = ([], 0, 40) := by rw [openL, if_neg (by simp [okO, okO2, HGE.out, show ¬ G ≤ 4611686018427387904 by omega])]
    rw [e0]
    have d4 : decide ((4611686018427387904 : Int) < (G : Int)) = true := decide_eq_true (by omega)
    clear e0 hcut18 h4
    go_enter Tryd.func24, Tryd.ntmps24
    go_wp2_with (go_at_call 19; (with_reducible refine (crc_Get.calls_at _ _ ((b.take 17).drop 9) G true _ HG.out.2 HC8.out (by have := HG.out.2; omega) HGF.out).mono ?_); rintro e w1 ⟨rfl, hd⟩; have HB := Aside0.mk hd.below; clear hd)
    refine bodyPost_ret (results_tmp3 rfl _ _ _) rfl ?_
    exact ⟨_, rfl, Kd.R_nil _ _ _ _ _, HB.out⟩
  have d4 : decide ((4611686018427387904 : Int) < (G : Int)) = false := decide_eq_false (by omega)
  have hG2 : G ≤ 4611686018427387904 := by omega
  clear h4
  go_enter Tryd.func24, Tryd.ntmps24
  go_upto_region 7 with (first
    | (go_at_call 19; (with_reducible refine (crc_Get.calls_at _ _ ((b.take 17).drop 9) G true _ HG.out.2 HC8.out (by have := HG.out.2; omega) HGF.out).mono ?_); rintro e w1 ⟨rfl, hd⟩; have HB := Aside0.mk hd.below; clear hd; have h17 := pw_cell_below HB.out h17'; have h17b := cell_alloc_old (.cells #[] 5) h17; have HE := Aside0.mk (R_empty (Kd.int .u8) 5 w.heap.size w1 (fun _ => True) HB.out.size trivial))
    | ((with_reducible refine gate_dst (N := 45) rfl ?_); refine Kd.R_append_row (w0 := w) (Value.int .u8) 0 (h1 := fun _ => rfl) w.heap.size rfl (.tmp 37) (.tmp 44) 22 5 (.int .u8 0) 1 rfl Tryd.underlying22 infoU8 rfl (by decide) _ [] (loadO b) (some ⟨ad.block, ad.off + 18, none⟩) (loadO b).length (c - 18) (fun _ => True) rfl ?hx (fun _ _ => trivial) HE.out (Kd.C_below HC18.out (below_alloc HB.out _)) (below_alloc HB.out _) ?hb ?hl ?_; (case hx => (show Value.slice (some ⟨ad.block, ad.off + 18, none⟩) (18 + lenO b - 18) (c - 18) = _; rw [HLL.out, show 18 + lenO b - 18 = lenO b by omega])); (case hb => (have := HB.out.size; simp; omega)); (case hl => (have := HLL.out; simp; omega)); intro v1 w2 hR1 hB1 hg_ ho_; rw [List.nil_append] at hR1; have HR1 := Aside0.mk hR1; have HB1 := Aside0.mk hB1; clear hR1 hB1 hg_ ho_))
  obtain ⟨A3, c3, rfl⟩ := Kd.R_slice HR1.out
  have HGO : Aside0 (0 ≤ (G : Int) ∧ (G : Int) ≤ 4611686018427387904) := ⟨by omega⟩
  have HWG : Aside0 (IntKind.i64.wrap (G : Int) = (G : Int)) := ⟨by simp [IntKind.wrap, IntKind.signed, IntKind.bits]; omega⟩
  have HLM : Aside0 ((loadO b).length ≤ 106) := ⟨by have := HLL.out; omega⟩
  go_cut [55] (fun v wx => v = .bool (!(okO3 b s idx)) ∧ Aside0 (Kd.R (Kd.int .u8) 5 wx w.heap.size (fun _ => True) (.slice A3 (loadO b).length c3) (loadO b)) ∧ Aside0 (Below w.heap.size w wx))
  case first =>
    have HR2 := Aside0.mk (Kd.R_drew HR1.out)
    have HTW := Aside0.mk (HT.out.below (below_drew1 HB1.out))
    obtain ⟨X, hX⟩ : ∃ X : Value, Value.agg (cellsOf (imageB s idx (G : Int) (loadO b))) = X := ⟨_, rfl⟩
    obtain ⟨Y, hY⟩ : ∃ Y : Value, Value.agg (cellsOf b) = Y := ⟨_, rfl⟩
    have hne : ∀ W, (binOp .neq 48 X Y).run Tryd.prog W = .ok (.bool (!(okO3 b s idx))) W := fun W => by
      rw [← hX, ← hY, run_neq_struct, eq_images W (imageB s idx (G : Int) (loadO b)) b (image_length s idx (G : Int) (loadO b) HLM.out) HBL.out (okO3 b s idx) (by rw [okO3, HGE.out])]
      rfl
    have hgd : ∀ W, (eqGuard .neq 48 (.tmp 51) (.tmp 54) X Y).run Tryd.prog W = .ok () W := fun W => by
      rw [← hX, ← hY]
      exact run_eqGuard_agg (P := Tryd.prog) W .neq 48 _ _ _ _ (by kernel_rfl)
    have HX := Aside0.mk hX
    have HY := Aside0.mk hY
    clear hX hY
    have hsa := fun W => run_arrayAt (P := Tryd.prog) (w := W) 48 5 128 (some ad) 128 c Tryd.underlying48 (Nat.le_refl _)
    have HBD := Aside0.mk (below_drew1 HB1.out)
    have hload0 : (Instr.loadAt 48 (.pointer (some ad))).run Tryd.prog w2.drew = .ok Y w2.drew := HY.out ▸ load_arg HBL.out (Kd.C_below HR.out HBD.out)
    refine start_ (n := 10) (ds := []) (S := fun W => (Instr.loadAt 48 (.pointer (some ad))).run Tryd.prog W = .ok Y W) #[false, false, false, false, false, false, false, false, false, false] rfl rfl rfl hload0 (fun hS => ?_)
    clear hload0
    generalize w2.drew = w3 at HR2 HBD HTW hS ⊢
    refine pure_ (i := 0) (N := some 46) (v := ?_) (a' := ?_) #[true, false, false, false, false, false, false, false, false, false] rfl rfl (by kernel_rfl) (fun _ _ _ h => h) (Or.inl ⟨by rfl, ?_⟩) ?_ ?_
    rotate_left
    · intro w'
      go_simp
      with_reducible rfl
    rotate_left
    · simp only [Act.put, List.setIfInBounds_toArray, List.set_cons_zero, List.set_cons_succ, i64_w, i32_w]
      rfl
    refine pure_ (i := 1) (N := some 47) (v := ?_) (a' := ?_) #[true, true, false, false, false, false, false, false, false, false] rfl rfl (by kernel_rfl) (fun _ _ _ h => h) (Or.inl ⟨by rfl, ?_⟩) ?_ ?_
    rotate_left
    · intro w'
      go_simp
      with_reducible rfl
    rotate_left
    · simp only [Act.put, List.setIfInBounds_toArray, List.set_cons_zero, List.set_cons_succ, i64_w, i32_w]
      rfl
    refine pure_ (i := 2) (N := some 48) (v := ?_) (a' := ?_) #[true, true, true, false, false, false, false, false, false, false] rfl rfl (by kernel_rfl) (fun _ _ _ h => h) (Or.inl ⟨by rfl, ?_⟩) ?_ ?_
    rotate_left
    · intro w'
      go_simp
      with_reducible rfl
    rotate_left
    · simp only [Act.put, List.setIfInBounds_toArray, List.set_cons_zero, List.set_cons_succ, i64_w, i32_w]
      rfl
    refine pure_ (i := 3) (N := some 49) (v := ?_) (a' := ?_) #[true, true, true, true, false, false, false, false, false, false] rfl rfl (by kernel_rfl) (fun _ _ _ h => h) (Or.inl ⟨by rfl, ?_⟩) ?_ ?_
    rotate_left
    · intro w'
      go_simp
      with_reducible rfl
    rotate_left
    · simp only [Act.put, List.setIfInBounds_toArray, List.set_cons_zero, List.set_cons_succ, i64_w, i32_w]
      rfl
    refine pure_ (i := 4) (N := some 50) (v := ?_) (a' := ?_) #[true, true, true, true, true, false, false, false, false, false] rfl rfl (by kernel_rfl) (fun _ _ _ h => h) (Or.inl ⟨by rfl, ?_⟩) ?_ ?_
    rotate_left
    · intro w'
      go_simp
      with_reducible rfl
    rotate_left
    · simp only [Act.put, List.setIfInBounds_toArray, List.set_cons_zero, List.set_cons_succ, i64_w, i32_w]
      rfl
    refine pure_ (i := 6) (N := some 52) (v := ?_) (a' := ?_) #[true, true, true, true, true, false, true, false, false, false] rfl rfl (by kernel_rfl) (fun _ _ _ h => h) (Or.inl ⟨by rfl, ?_⟩) ?_ ?_
    rotate_left
    · intro w'
      go_simp
      with_reducible rfl
    rotate_left
    · simp only [Act.put, List.setIfInBounds_toArray, List.set_cons_zero, List.set_cons_succ, i64_w, i32_w]
      rfl
    refine pure_ (i := 7) (N := some 53) (v := ?_) (a' := ?_) #[true, true, true, true, true, false, true, true, false, false] rfl rfl (by kernel_rfl) (fun _ _ _ h => h) (Or.inl ⟨by rfl, ?_⟩) ?_ ?_
    rotate_left
    · intro w'
      go_simp
      with_reducible rfl
    rotate_left
    · simp only [Act.put, List.setIfInBounds_toArray, List.set_cons_zero, List.set_cons_succ, i64_w, i32_w]
      rfl
    refine take_ (i := 8) (N := some 54) (v := Y) (a' := ?_) #[true, true, true, true, true, false, true, true, true, false] rfl rfl (by kernel_rfl) (fun _ _ _ h => h) (Or.inl ⟨by rfl, fun w' s0 => exec_load rfl rfl s0⟩) hS ?_ ?_
    rotate_left
    · simp only [Act.put, List.setIfInBounds_toArray, List.set_cons_zero, List.set_cons_succ, i64_w, i32_w]
      rfl
    refine one_ (i := 5) (N := some 51) #[true, true, true, true, true, true, true, true, true, false] rfl rfl (by kernel_rfl) (by decide) (fun K hK => ?_)
    refine goes_ Tryd.func28 (by kernel_rfl) rfl #[.string s, .int .i64 idx, .int .i64 (G : Int), .slice A3 (loadO b).length c3] (by rfl) rfl rfl ?h1 ?_
    case h1 => first | rfl | (simp only [List.map_toArray, List.map_cons, List.map_nil]; rfl) | (simp only [List.map_toArray, List.map_cons, List.map_nil, w64 (show -9223372036854775808 ≤ (G : Int) by omega) (by omega)]; rfl)
    refine (extent_build.calls s idx (G : Int) _ _ (loadO b) _ (Kd.R_reads' HR2.out).2.2 (Kd.R_reads' HR2.out).2.1 HLK.out HLM.out HI.out HGO.out hs HTW.out).mono ?_
    rintro e w4 ⟨rfl, hb4⟩
    have HB4 := Aside0.mk hb4
    clear hb4
    refine ⟨_, rfl, ?_⟩
    rw [HX.out]
    refine hK.out _ _ (HY.out ▸ load_arg HBL.out (Kd.C_below HR.out (below_step HBD.out HB4.out))) (fun s0 => ?_)
    clear hK K
    refine norm_ (a' := ?_) ?_ ?_
    rotate_left
    · show Act.put _ (some 51) _ = _
      simp only [Act.put, List.setIfInBounds_toArray, List.set_cons_zero, List.set_cons_succ, i64_w, i32_w]
      rfl
    refine pure_ (i := 9) (N := some 55) (v := ?_) (a' := ?_) #[true, true, true, true, true, true, true, true, true, true] rfl rfl (by kernel_rfl) (fun _ _ _ h => h) (Or.inl ⟨by rfl, ?_⟩) ?_ ?_
    rotate_left
    · intro w'
      go_simp
      with_reducible rfl
    rotate_left
    · simp only [Act.put, List.setIfInBounds_toArray, List.set_cons_zero, List.set_cons_succ, i64_w, i32_w]
      rfl
    refine done_ (by kernel_rfl) ?_
    go_wp2_with fail
    go_meet
    exact ⟨rfl, ⟨Kd.R_below HR2.out HB4.out⟩, ⟨below_step HBD.out HB4.out⟩⟩
  case rest =>
  obtain ⟨rfl, HRR, HBB⟩ := hcut
  cases h5 : okO3 b s idx with
  | false =>
    have e0 : openL b s idx = ([], 0, 40) := by rw [openL, if_neg (by simp [okO, h5])]
    have E0 := Aside0.mk e0
    clear e0
    go_wp2
    refine bodyPost_ret (results_tmp3 rfl _ _ _) rfl ?_
    rw [E0.out]
    exact ⟨_, rfl, Kd.R_nil _ _ _ _ _, HBB.out⟩
  | true =>
    have e0 : openL b s idx = (loadO b, (G : Int), 0) := by rw [openL, if_pos (by simp only [okO, HOK1.out, h5, Bool.and_true, Bool.true_and]; rw [okO2, HGE.out]; exact decide_eq_true hG2), HGE.out]
    have E0 := Aside0.mk e0
    clear e0
    go_wp2
    refine bodyPost_ret (results_tmp3 rfl _ _ _) rfl ?_
    rw [E0.out]
    exact ⟨_, rfl, HRR.out, HBB.out⟩
end Go.Proofs.YtmaoleabfmokpaaDoor.G

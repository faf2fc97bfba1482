/- The contract of extent.build: an extent's bytes, as an array. -/
import Derived.Test.YtmaoleabfmokpaaDoorGSum
import Derived.Test.YtmaoleabfmokpaaDoorGPut
import Derived.Laws.CopyRow
import Derived.Laws.CopyOwn
import Derived.Lib.SlBuf
namespace Go.Proofs.YtmaoleabfmokpaaDoor.G
open Go.RowKit Go.Proofs.YtmaoleabfmokpaaDoorW.PrintWords Go.Proofs.YtmaoleabfmokpaaDoorW.PrintLast Go.Proofs.YtmaoleabfmokpaaDoorW.PrintMore
set_option linter.unusedVariables false
set_option linter.unusedSimpArgs false

/-- bytes as cells -/
def cellsOf (l : List Int) : Array Value := (l.map (Value.int .u8)).toArray
/-- a text's bytes, as numbers -/
def numsOf (s : ByteArray) : List Int := s.data.toList.map fun b => (b.toNat : Int)
/-- an extent's bytes but for its sum -/
def headB (s : ByteArray) (idx gen : Int) (l : List Int) : List Int :=
  229 :: (beL (CrcMath.more 0 (numsOf s)) 4 ++ (beL idx.toNat 4 ++ (beL gen.toNat 8 ++ ((l.length : Int) :: (l ++ List.replicate (106 - l.length) 0)))))
def imageB (s : ByteArray) (idx gen : Int) (l : List Int) : List Int := headB s idx gen l ++ beL (CrcMath.more 0 (headB s idx gen l)) 4


/-- some cells anew -/
def splice (L : List Int) (o : Nat) (xs : List Int) : List Int := L.take o ++ xs ++ L.drop (o + xs.length)
theorem splice_at (P xs : List Int) (n : Nat) : splice (P ++ List.replicate (n + xs.length) 0) P.length xs = (P ++ xs) ++ List.replicate n 0 := by
  unfold splice
  rw [List.take_left' rfl, List.drop_append, List.drop_of_length_le (by omega), List.nil_append, List.drop_replicate, show n + xs.length - (P.length + xs.length - P.length) = n by omega]
theorem set_at_end (P : List Int) (x : Int) (n : Nat) : (P ++ List.replicate (n + 1) 0).set P.length x = (P ++ [x]) ++ List.replicate n 0 := by
  rw [List.set_append_right _ _ (by omega), Nat.sub_self, List.replicate_succ, List.set_cons_zero, List.append_assoc]
  rfl
/-- the array, stage by stage -/
def L1 : List Int := (List.replicate 128 0).set 0 229
def L2 (s : ByteArray) : List Int := splice L1 1 (beL (CrcMath.more 0 (numsOf s)) 4)
def L3 (s : ByteArray) (idx : Int) : List Int := splice (L2 s) 5 (beL idx.toNat 4)
def L4 (s : ByteArray) (idx gen : Int) : List Int := splice (L3 s idx) 9 (beL gen.toNat 8)
def L5 (s : ByteArray) (idx gen : Int) (l : List Int) : List Int := (L4 s idx gen).set 17 l.length
def L6 (s : ByteArray) (idx gen : Int) (l : List Int) : List Int := splice (L5 s idx gen l) 18 l
def L7 (s : ByteArray) (idx gen : Int) (l : List Int) : List Int := splice (L6 s idx gen l) 124 (beL (CrcMath.more 0 ((L6 s idx gen l).take 124)) 4)
theorem L1_eq : L1 = [229] ++ List.replicate 127 0 := set_at_end [] 229 127
theorem L2_eq (s : ByteArray) : L2 s = ([229] ++ beL (CrcMath.more 0 (numsOf s)) 4) ++ List.replicate 123 0 := by
  have := splice_at [229] (beL (CrcMath.more 0 (numsOf s)) 4) 123
  rw [beL_length] at this
  rw [L2, L1_eq]
  exact this
theorem L3_eq (s : ByteArray) (idx : Int) : L3 s idx = (([229] ++ beL (CrcMath.more 0 (numsOf s)) 4) ++ beL idx.toNat 4) ++ List.replicate 119 0 := by
  have := splice_at ([229] ++ beL (CrcMath.more 0 (numsOf s)) 4) (beL idx.toNat 4) 119
  rw [List.length_append, beL_length, beL_length] at this
  rw [L3, L2_eq]
  exact this
theorem L4_eq (s : ByteArray) (idx gen : Int) : L4 s idx gen = ((([229] ++ beL (CrcMath.more 0 (numsOf s)) 4) ++ beL idx.toNat 4) ++ beL gen.toNat 8) ++ List.replicate 111 0 := by
  have := splice_at (([229] ++ beL (CrcMath.more 0 (numsOf s)) 4) ++ beL idx.toNat 4) (beL gen.toNat 8) 111
  rw [List.length_append, List.length_append, beL_length, beL_length, beL_length] at this
  rw [L4, L3_eq]
  exact this
theorem L5_eq (s : ByteArray) (idx gen : Int) (l : List Int) : L5 s idx gen l = (((([229] ++ beL (CrcMath.more 0 (numsOf s)) 4) ++ beL idx.toNat 4) ++ beL gen.toNat 8) ++ [(l.length : Int)]) ++ List.replicate 110 0 := by
  have := set_at_end ((([229] ++ beL (CrcMath.more 0 (numsOf s)) 4) ++ beL idx.toNat 4) ++ beL gen.toNat 8) (l.length : Int) 110
  rw [List.length_append, List.length_append, List.length_append, beL_length, beL_length, beL_length] at this
  rw [L5, L4_eq]
  exact this
theorem L6_eq (s : ByteArray) (idx gen : Int) (l : List Int) (hl : l.length ≤ 106) : L6 s idx gen l = headB s idx gen l ++ List.replicate 4 0 := by
  have := splice_at (((([229] ++ beL (CrcMath.more 0 (numsOf s)) 4) ++ beL idx.toNat 4) ++ beL gen.toNat 8) ++ [(l.length : Int)]) l (110 - l.length)
  rw [List.length_append, List.length_append, List.length_append, List.length_append, beL_length, beL_length, beL_length, show 110 - l.length + l.length = 110 by omega] at this
  rw [L6, L5_eq]
  refine this.trans ?_
  rw [show 110 - l.length = (106 - l.length) + 4 by omega, ← List.replicate_append_replicate]
  simp only [headB, List.append_assoc, List.cons_append, List.nil_append]
theorem headB_length (s : ByteArray) (idx gen : Int) (l : List Int) (hl : l.length ≤ 106) : (headB s idx gen l).length = 124 := by
  unfold headB
  simp only [List.length_cons, List.length_append, beL_length, List.length_replicate]
  omega
theorem L6_take (s : ByteArray) (idx gen : Int) (l : List Int) (hl : l.length ≤ 106) : (L6 s idx gen l).take 124 = headB s idx gen l := by
  rw [L6_eq s idx gen l hl, List.take_left' (headB_length s idx gen l hl)]
theorem L7_eq (s : ByteArray) (idx gen : Int) (l : List Int) (hl : l.length ≤ 106) : L7 s idx gen l = imageB s idx gen l := by
  have := splice_at (headB s idx gen l) (beL (CrcMath.more 0 (headB s idx gen l)) 4) 0
  rw [beL_length, headB_length s idx gen l hl] at this
  rw [L7, L6_take s idx gen l hl, L6_eq s idx gen l hl]
  refine this.trans ?_
  rw [List.replicate_zero, List.append_nil]
  rfl
theorem zero_image (w : World) : (zeroValue 48).run Tryd.prog w = .ok (.agg (cellsOf (List.replicate 128 0))) w := by kernel_rfl

/-- where the call stands: its result's cell, its array -/
structure St (w W : World) (L : List Int) : Prop where
  arr : W.heap[w.heap.size + 1]? = some (.cells (cellsOf L) 48 (0, 0))
  res : W.heap[w.heap.size]? = some (.cells (cellsOf (List.replicate 128 0)) 48 (0, 0))
  bel : Below w.heap.size w W
theorem St.below {w W W' : World} {L : List Int} (h : St w W L) (hb : Below W.heap.size W W') : St w W' L :=
  ⟨blk_below h.arr hb, blk_below h.res hb, below_step h.bel hb⟩
theorem St.drew {w W : World} {L : List Int} (h : St w W L) : St w W.drew L := h.below (below_drew1 (Below.refl _ _))
theorem St.made (w : World) : St w ((w.alloc (.cells (cellsOf (List.replicate 128 0)) 48)).alloc (.cells (cellsOf (List.replicate 128 0)) 48)) (List.replicate 128 0) := by
  refine ⟨?_, ?_, below_alloc (below_alloc (Below.refl _ _) _) _⟩
  · have := blk_new (w.alloc (.cells (cellsOf (List.replicate 128 0)) 48)) (.cells (cellsOf (List.replicate 128 0)) 48)
    simpa using this
  · exact blk_below (blk_new w _) (below_alloc (Below.refl _ _) _)
theorem cells_get (L : List Int) (j : Nat) (h : j < L.length) : (cellsOf L)[j]? = some (.int .u8 (rd L (j : Int))) := by
  unfold cellsOf rd
  rw [List.getElem?_toArray, List.getElem?_map, List.getElem?_eq_getElem h]
  simp [List.getD_eq_getElem?_getD, List.getElem?_eq_getElem h]
theorem St.cell {w W : World} {L : List Int} (h : St w W L) (j : Nat) (hj : j < L.length) : W.cell? ⟨w.heap.size + 1, j, none⟩ = some (.int .u8 (rd L (j : Int))) := (blk_cell h.arr j).trans (cells_get L j hj)
theorem St.frozen {w W : World} {L : List Int} (h : St w W L) (j : Nat) : W.frozen? ⟨w.heap.size + 1, j, none⟩ = false := blk_frozen h.arr j
theorem St.put {w W : World} {L : List Int} (h : St w W L) (j : Nat) (v : Int) : St w (W.setCell ⟨w.heap.size + 1, j, none⟩ (.int .u8 v)) (L.set j v) := by
  refine ⟨?_, ?_, below_set h.bel (by simp)⟩
  · refine blk_put h.arr j _ ?_
    unfold cellsOf
    simp [List.map_set]
  · exact (Below.heap_setCell W _ _ _ (by simp)).trans h.res
theorem St.row {w W : World} {L : List Int} (h : St w W L) (L' : List Int) : St w (W.setRow (w.heap.size + 1) (cellsOf L')) L' :=
  ⟨setRow_heap _ _ _ _ _ _ h.arr, (setRow_other _ _ _ _ (by omega)).trans h.res, below_setRow h.bel (by omega) _⟩
theorem cells_splice (L : List Int) (o : Nat) (xs : List Int) : ((cellsOf L).toList.take o ++ xs.map (Value.int .u8) ++ (cellsOf L).toList.drop (o + (xs.map (Value.int .u8)).length)).toArray = cellsOf (splice L o xs) := by
  unfold cellsOf splice
  simp [List.map_take, List.map_drop]
theorem St.copy {w W : World} {L : List Int} (h : St w W L) (o dn : Nat) (a : Addr) (n cap : Nat) (xs : List Int) (hn : xs.length = n) (hC : (Kd.int .u8).C W (some a) n xs) (ho : o + xs.length ≤ L.length) (hd : n ≤ dn) (dc : Nat) (ty : TypeId) :
    (Builtin.copy_ #[22, 22] ty #[.slice (some ⟨w.heap.size + 1, o, none⟩) dn dc, .slice (some a) n cap]).run Tryd.prog W = .ok (goInt xs.length) (W.setRow (w.heap.size + 1) (cellsOf (splice L o xs))) := by
  obtain ⟨i0, hi, _, hsz, _⟩ := info_parts infoU8
  have := run_copy_row (P := Tryd.prog) W 22 22 ty 5 (w.heap.size + 1) o dn dc a n cap (cellsOf L) 48 (xs.map (Value.int .u8)) Tryd.underlying22 (by rw [hi]; simp [hsz]) h.arr (by rw [List.length_map, hn]; exact (Nat.min_eq_left hd).symm) (fun j v hj => by
    rw [List.getElem?_map] at hj
    obtain ⟨x, hx, rfl⟩ := Option.map_eq_some_iff.1 hj
    have hjl := (List.getElem?_eq_some_iff.1 hx).1
    obtain ⟨ad, cs, e, _, hK, hc⟩ := Kd.C_get hC (0 : Int) (j : Int) (by omega) (by omega)
    obtain rfl := Option.some.inj e
    have hk : cs = [.int .u8 x] := by
      have e2 : xs.getD (j : Int).toNat 0 = x := by simp [List.getD_eq_getElem?_getD, hx]
      rw [e2] at hK
      exact hK
    subst hk
    have := hc 0 _ rfl
    rwa [Int.toNat_natCast, show (Kd.int .u8).sz = 1 from rfl, Nat.mul_one, Nat.add_zero] at this) (by simp only [cellsOf, List.size_toArray, List.length_map]; omega) (fun v hv => by
    obtain ⟨x, _, rfl⟩ := List.mem_map.1 hv
    rfl)
  rw [cells_splice] at this
  simpa using this
theorem conv_text (s : ByteArray) (W : World) : (convert 9 22 (.string s)).run Tryd.prog W = .ok (.slice (some ⟨W.heap.size, 0, none⟩) s.size (grownCap W s.size 0 5)) (Lib.bytesWorld W 5 s) :=
  Lib.run_convert_string_bytes W 9 22 5 s Tryd.underlying9 Tryd.underlying22 Tryd.underlying5
theorem nums_len (s : ByteArray) : (numsOf s).length = s.size := by
  unfold numsOf
  rw [List.length_map, Array.length_toList]
  rfl
theorem nums_ok (s : ByteArray) : okB (numsOf s) = true := okB_iff.2 fun x hx => by
  obtain ⟨b, _, rfl⟩ := List.mem_map.1 hx
  have := b.toNat_lt
  omega
theorem text_below (W : World) (s : ByteArray) : Below W.heap.size W (Lib.bytesWorld W 5 s) := bytes_below (Below.refl _ _) (Nat.le_refl _) _ _
theorem text_C (W : World) (s : ByteArray) (hs : s.size ≤ 140737488351232) : (Kd.int .u8).C (Lib.bytesWorld W 5 s) (some ⟨W.heap.size, 0, none⟩) s.size (numsOf s) := by
  refine Kd.C_of_reads (d := (0 : Int)) (h1 := fun _ => rfl) ⟨nums_len s, by omega, fun _ => ⟨_, rfl, fun j hj => ?_⟩⟩
  rw [show (Addr.add ⟨W.heap.size, 0, none⟩ j) = ⟨W.heap.size, j, none⟩ from by rw [add_plain], Lib.bytesWorld_cell W _ s j hj]
  simp [numsOf, List.getD_eq_getElem?_getD, List.getElem?_eq_getElem (show j < s.data.toList.length by rw [Array.length_toList]; exact hj)]
theorem grown_le (W : World) (s : ByteArray) : s.size ≤ grownCap W s.size 0 5 := grownCap_ge _ _ _ _
theorem Below.trans_text {W W' : World} (h : Below W.drew.heap.size W.drew W') : Below W.heap.size W W' := below_step (below_drew1 (Below.refl _ _)) h
theorem head_ok (s : ByteArray) (idx gen : Int) (l : List Int) (hok : okB l = true) (hl : l.length ≤ 106) : okB (headB s idx gen l) = true := okB_iff.2 fun x hx => by
  unfold headB at hx
  rcases List.mem_cons.1 hx with rfl | hx
  · decide
  rcases List.mem_append.1 hx with hx | hx
  · exact beL_byte _ _ x hx
  rcases List.mem_append.1 hx with hx | hx
  · exact beL_byte _ _ x hx
  rcases List.mem_append.1 hx with hx | hx
  · exact beL_byte _ _ x hx
  rcases List.mem_cons.1 hx with rfl | hx
  · omega
  rcases List.mem_append.1 hx with hx | hx
  · exact okB_iff.1 hok x hx
  · obtain rfl := List.eq_of_mem_replicate hx
    decide
theorem image_length (s : ByteArray) (idx gen : Int) (l : List Int) (hl : l.length ≤ 106) : (imageB s idx gen l).length = 128 := by
  rw [imageB, List.length_append, headB_length s idx gen l hl, beL_length]
theorem St.head {w W : World} {s : ByteArray} {idx gen : Int} {l : List Int} (h : St w W (L6 s idx gen l)) (hl : l.length ≤ 106) : (Kd.int .u8).C W (some ⟨w.heap.size + 1, 0, none⟩) 124 (headB s idx gen l) := by
  refine Kd.C_of_reads (d := (0 : Int)) (h1 := fun _ => rfl) ⟨headB_length s idx gen l hl, by decide, fun _ => ⟨_, rfl, fun j hj => ?_⟩⟩
  rw [show (Addr.add ⟨w.heap.size + 1, 0, none⟩ j) = ⟨w.heap.size + 1, j, none⟩ from by rw [add_plain]]
  have hlen := headB_length s idx gen l hl
  rw [h.cell j (by rw [L6_eq s idx gen l hl, List.length_append]; omega), L6_eq s idx gen l hl]
  unfold rd
  rw [Int.toNat_natCast, List.getD_eq_getElem?_getD, List.getD_eq_getElem?_getD, List.getElem?_append_left (by omega)]
theorem image_size (L : List Int) (hl : L.length = 128) : (Tryd.prog.info? 48).map (·.size) = some (cellsOf L).size := by
  have h : (Tryd.prog.info? 48).map (·.size) = some 128 := by kernel_rfl
  rw [h]
  unfold cellsOf
  rw [List.size_toArray, List.length_map, hl]
theorem St.load {w W : World} {L : List Int} (h : St w W L) (hl : L.length = 128) : (loadVar 48 ⟨w.heap.size + 1, 0, none⟩).run Tryd.prog W = .ok (.agg (cellsOf L)) W :=
  run_loadVar_row W _ _ 48 _ _ _ h.arr Tryd.underlying48 rfl (image_size L hl)
theorem St.store {w W : World} {L : List Int} (h : St w W L) (L' : List Int) (hl : L'.length = 128) : (storeVar 48 ⟨w.heap.size, 0, none⟩ (.agg (cellsOf L'))).run Tryd.prog W = .ok () (W.setRow w.heap.size (cellsOf L')) :=
  run_storeVar_row W _ _ 48 _ _ h.res (image_size L' hl) (by simp [cellsOf, hl]) (by simp [cellsOf, Value.oneCell'])
section
variable {P : Program} {ops : Array Oper} {rest : List Oper} {o : Oper} {a : Act} {Q : Exit → Act → World → Prop} {w : World}
theorem wp_load (hg : o.guard = none) (t : TypeId) (x : Operand) (hop : o.op = Op.load t x) (p : Addr) (hx : a.eval x = .pointer (some p)) (v : Value) (hrun : (loadVar t p).run P w = .ok v w)
    (hK : wpList P ops Q rest (a.put o.dst v) w) : wpList P ops Q (o :: rest) a w := by
  refine wpList_plain hg fun K' hK' => ?_
  unfold Oper.wp
  simp [execOp, hop, hx, Instr.loadAt, Instr.storeAt, Instr.sureAddr, asAddr, hrun, Result.andThen]
  exact hK' _ _ hK
theorem wp_store (hg : o.guard = none) (t : TypeId) (x y : Operand) (hop : o.op = Op.store t x y) (p : Addr) (hx : a.eval x = .pointer (some p)) (v : Value) (hy : a.eval y = v) (w' : World) (hrun : (storeVar t p v).run P w = .ok () w')
    (hK : wpList P ops Q rest (a.put o.dst undef) w') : wpList P ops Q (o :: rest) a w := by
  refine wpList_plain hg fun K' hK' => ?_
  unfold Oper.wp
  simp [execOp, hop, hx, hy, Instr.loadAt, Instr.storeAt, Instr.sureAddr, asAddr, hrun, Result.andThen]
  exact hK' _ _ hK
end
theorem put_f {q : Int} (h0 : 0 ≤ q) (h1 : q < 18446744073709551616) (n : Nat) (hn : n ≤ 8 := by decide) : crc_Put.f (IntKind.u64.wrap q) n = some (beL q.toNat n) := by
  have e : IntKind.u64.wrap q = q := by simp [IntKind.wrap, IntKind.signed, IntKind.bits]; omega
  rw [e, crc_Put.f, if_pos ⟨h0, h1⟩]
  congr 2
  unfold wid
  omega
set_option maxHeartbeats 4000000 in
set_option maxRecDepth 100000 in
theorem extent_build.calls (s : ByteArray) (idx gen : Int) (A : Option Addr) (c : Nat) (l : List Int) (w : World) (hr : Kd.C (Kd.int .u8) w A l.length l) (hc : l.length ≤ c) (hok : okB l = true) (hlen : l.length ≤ 106) (hi : 0 ≤ idx ∧ idx ≤ 2147483647) (hg : 0 ≤ gen ∧ gen ≤ 4611686018427387904) (hs : s.size ≤ 140737488351232) (hT : TabQ w) :
    Calls Tryd.prog 28 #[.string s, .int .i64 idx, .int .i64 gen, .slice A l.length c] w fun e w' => e = .returned (.agg (cellsOf (imageB s idx gen l))) ∧ Below w.heap.size w w' := by
  have HR := Aside0.mk hr
  have HC := Aside0.mk hc
  have HL := Aside0.mk hlen
  have HI := Aside0.mk hi
  have HG := Aside0.mk hg
  have HT := Aside0.mk hT
  clear hr hc hlen hi hg hT
  go_enter Tryd.func28, Tryd.ntmps28
  have hz := zero_image
  obtain ⟨Z, hZ⟩ : ∃ Z, cellsOf (List.replicate 128 0) = Z := ⟨_, rfl⟩
  have HS := Aside0.mk (St.made w)
  rw [hZ] at hz HS
  have HZ := Aside0.mk hZ
  clear hZ
  go_upto_region 2 with fail
  go_cut [9] (fun p wx => p = .pointer (some ⟨w.heap.size + 1, 0, none⟩) ∧ Aside0 (St w wx L1))
  case first =>
    generalize ((w.alloc (.cells Z 48)).alloc (.cells Z 48)) = W0 at *
    have hc0 : W0.cell? ⟨w.heap.size + 1, 0, none⟩ = some (.int .u8 0) := HS.out.cell 0 (by simp)
    have hf0 := HS.out.frozen 0
    go_wp2
    go_meet
    exact ⟨rfl, ⟨HS.out.put 0 229⟩⟩
  case rest =>
  clear HS
  obtain ⟨rfl, HS⟩ := hcut
  rename_i wc_
  go_upto_region 3 with fail
  go_cut [17] (fun _ wx => Aside0 (St w wx (L2 s)))
  case first =>
    have hcv := conv_text s
    have HCT := Aside0.mk (text_C wc.drew s hs)
    have HBT := Aside0.mk (text_below wc.drew s)
    have HQ : Aside0 (∃ q : Int, crc_Sum.f (numsOf s) = some q ∧ 0 ≤ q ∧ q < 4294967296 ∧ beL q.toNat 4 = beL (CrcMath.more 0 (numsOf s)) 4) := ⟨⟨_, by rw [crc_Sum.f, if_pos (nums_ok s)], by omega, by have := CrcMath.more_lt (s := 0) (by decide) (l := numsOf s) (okB_iff.1 (nums_ok s)); omega, by rw [Int.toNat_natCast]⟩⟩
    obtain ⟨q, hq, hq0, hq1, hqb⟩ := HQ.out
    have HQ1 := Aside0.mk hq
    have HPT : Aside0 (crc_Put.f (IntKind.u64.wrap q) 4 = some (beL q.toNat 4)) := ⟨put_f hq0 (by omega) 4⟩
    have HQ2 := Aside0.mk hqb
    have HTW := Aside0.mk ((HT.out.below HS.out.bel).below (Below.trans_text HBT.out))
    clear hq hqb
    go_region_with (first
      | (go_at_call 13; (with_reducible refine (crc_Sum.calls_at (some ⟨wc.heap.size, 0, none⟩) _ (numsOf s) q _ (nums_len s) HCT.out (grown_le _ _) HTW.out HQ1.out).mono ?_); rintro e w2 ⟨rfl, hd⟩; have HB2 := Aside0.mk hd.below; clear hd)
      | (go_at_call 21; (with_reducible refine (crc_Put.calls _ 4 (beL q.toNat 4) _ HPT.out).mono ?_); rintro e w3 ⟨v3, rfl, hr3, hb3⟩; obtain ⟨A3, c3, rfl⟩ := Kd.R_slice hr3; obtain ⟨ad3, rfl, _⟩ := (Kd.R_reads' hr3).2.2.2.2 (by rw [beL_length]; decide); have HS3 := Aside0.mk ((((HS.out.below (Below.trans_text HBT.out)).below HB2.out)).below hb3); have hcp := HS3.out.copy 1 127 ad3 _ c3 (beL q.toNat 4) rfl (Kd.R_reads' hr3).2.2 (by rw [beL_length, L1_eq]; simp) (by rw [beL_length]; decide) 127 3; clear hr3 hb3))
    go_wp2_with fail
    go_meet
    exact ⟨by rw [L2, ← HQ2.out]; exact HS3.out.row _⟩
  case rest =>
  clear HS
  have HS := hcut
  clear hcut
  go_upto_region 4 with fail
  go_cut [22] (fun _ wx => Aside0 (St w wx (L3 s idx)))
  case first =>
    have HPT : Aside0 (crc_Put.f (IntKind.u64.wrap idx) 4 = some (beL idx.toNat 4)) := ⟨put_f (by have := HI.out; omega) (by have := HI.out; omega) 4⟩
    go_region_with (go_at_call 21; (with_reducible refine (crc_Put.calls _ 4 (beL idx.toNat 4) _ HPT.out).mono ?_); rintro e w3 ⟨v3, rfl, hr3, hb3⟩; obtain ⟨A3, c3, rfl⟩ := Kd.R_slice hr3; obtain ⟨ad3, rfl, _⟩ := (Kd.R_reads' hr3).2.2.2.2 (by rw [beL_length]; decide); have HS3 := Aside0.mk (HS.out.drew.below hb3); have hcp := HS3.out.copy 5 123 ad3 _ c3 (beL idx.toNat 4) rfl (Kd.R_reads' hr3).2.2 (by rw [beL_length, L2_eq]; simp [beL_length]) (by rw [beL_length]; decide) 123 3; clear hr3 hb3)
    go_wp2_with fail
    go_meet
    exact ⟨by rw [L3]; exact HS3.out.row _⟩
  case rest =>
  clear HS
  have HS := hcut
  clear hcut
  go_upto_region 5 with fail
  go_cut [27] (fun _ wx => Aside0 (St w wx (L4 s idx gen)))
  case first =>
    have HPT : Aside0 (crc_Put.f (IntKind.u64.wrap gen) 8 = some (beL gen.toNat 8)) := ⟨put_f (by have := HG.out; omega) (by have := HG.out; omega) 8⟩
    go_region_with (go_at_call 21; (with_reducible refine (crc_Put.calls _ 8 (beL gen.toNat 8) _ HPT.out).mono ?_); rintro e w3 ⟨v3, rfl, hr3, hb3⟩; obtain ⟨A3, c3, rfl⟩ := Kd.R_slice hr3; obtain ⟨ad3, rfl, _⟩ := (Kd.R_reads' hr3).2.2.2.2 (by rw [beL_length]; decide); have HS3 := Aside0.mk (HS.out.drew.below hb3); have hcp := HS3.out.copy 9 119 ad3 _ c3 (beL gen.toNat 8) rfl (Kd.R_reads' hr3).2.2 (by rw [beL_length, L3_eq]; simp [beL_length]) (by rw [beL_length]; decide) 119 3; clear hr3 hb3)
    go_wp2_with fail
    go_meet
    exact ⟨by rw [L4]; exact HS3.out.row _⟩
  case rest =>
  clear HS
  have HS := hcut
  clear hcut
  go_upto_region 6 with fail
  go_cut [31] (fun _ wx => Aside0 (St w wx (L5 s idx gen l)))
  case first =>
    have hc0 := HS.out.cell 17 (by rw [L4_eq]; simp [beL_length])
    have hf0 := HS.out.frozen 17
    go_wp2_with fail
    go_meet
    rw [show ((l.length : Int) % 256) = l.length from by have := HL.out; omega]
    exact ⟨HS.out.put 17 _⟩
  case rest =>
  clear HS
  have HS := hcut
  clear hcut
  go_upto_region 7 with fail
  go_cut [34] (fun _ wx => Aside0 (St w wx (L6 s idx gen l)))
  case first =>
    have hC := Kd.C_below HR.out HS.out.bel
    by_cases h0 : l.length = 0
    · obtain rfl : l = [] := List.length_eq_zero_iff.1 h0
      obtain ⟨i0, hi0, _, hsz0, _⟩ := info_parts infoU8
      have hcp := run_copy_none (P := Tryd.prog) wc 22 22 3 5 (some ⟨w.heap.size + 1, 18, none⟩) A 110 110 0 c Tryd.underlying22 (by rw [hi0]; simp [hsz0]) (by simp)
      clear hi0
      go_wp2_with fail
      go_meet
      refine ⟨?_⟩
      have e : L6 s idx gen [] = L5 s idx gen [] := by rw [L6, splice, List.append_nil]; exact List.take_append_drop _ _
      rw [e]
      exact HS.out
    · obtain ⟨ad, _, rfl, _⟩ := Kd.C_get hC (0 : Int) 0 (by omega) (by omega)
      have hcp := HS.out.copy 18 110 ad _ c l rfl hC (by have := HL.out; rw [L5_eq]; simp [beL_length]; omega) (by have := HL.out; omega) 110 3
      clear hC
      go_wp2_with fail
      go_meet
      exact ⟨by rw [L6]; exact HS.out.row _⟩
  case rest =>
  clear HS
  have HS := hcut
  clear hcut
  have HQ : Aside0 (∃ q : Int, crc_Sum.f (headB s idx gen l) = some q ∧ 0 ≤ q ∧ q < 4294967296 ∧ beL q.toNat 4 = beL (CrcMath.more 0 ((L6 s idx gen l).take 124)) 4) := ⟨⟨_, by rw [crc_Sum.f, if_pos (head_ok s idx gen l hok HL.out)], by omega, by have := CrcMath.more_lt (s := 0) (by decide) (l := headB s idx gen l) (okB_iff.1 (head_ok s idx gen l hok HL.out)); omega, by rw [Int.toNat_natCast, L6_take s idx gen l HL.out]⟩⟩
  obtain ⟨q, hq, hq0, hq1, hqb⟩ := HQ.out
  have HQ1 := Aside0.mk hq
  have HQ2 := Aside0.mk hqb
  have HPT : Aside0 (crc_Put.f (IntKind.u64.wrap q) 4 = some (beL q.toNat 4)) := ⟨put_f hq0 (by omega) 4⟩
  clear hq hqb
  go_upto_region 8 with fail
  go_cut [40] (fun _ wx => Aside0 (St w wx (L7 s idx gen l)))
  case first =>
    have HCT := Aside0.mk (HS.out.drew.head HL.out)
    have HTW := Aside0.mk ((HT.out.below HS.out.bel).below (below_drew1 (Below.refl _ _)))
    have HLH := Aside0.mk (headB_length s idx gen l HL.out)
    go_region_with (first
      | (go_at_call 13; (with_reducible refine (crc_Sum.calls_at (some ⟨w.heap.size + 1, 0, none⟩) _ (headB s idx gen l) q _ HLH.out HCT.out (by decide) HTW.out HQ1.out).mono ?_); rintro e w2 ⟨rfl, hd⟩; have HB2 := Aside0.mk hd.below; clear hd)
      | (go_at_call 21; (with_reducible refine (crc_Put.calls _ 4 (beL q.toNat 4) _ HPT.out).mono ?_); rintro e w3 ⟨v3, rfl, hr3, hb3⟩; obtain ⟨A3, c3, rfl⟩ := Kd.R_slice hr3; obtain ⟨ad3, rfl, _⟩ := (Kd.R_reads' hr3).2.2.2.2 (by rw [beL_length]; decide); have HS3 := Aside0.mk (((HS.out.drew.below HB2.out)).below hb3); have hcp := HS3.out.copy 124 4 ad3 _ c3 (beL q.toNat 4) rfl (Kd.R_reads' hr3).2.2 (by rw [beL_length, L6_eq s idx gen l HL.out, List.length_append, headB_length s idx gen l HL.out]; simp) (by rw [beL_length]; decide) 4 3; clear hr3 hb3))
    go_wp2_with fail
    go_meet
    exact ⟨by rw [L7, ← HQ2.out]; exact HS3.out.row _⟩
  case rest =>
  clear HS HZ hz
  have HS := hcut
  clear hcut
  rw [L7_eq s idx gen l HL.out] at HS
  have hld := HS.out.load (image_length s idx gen l HL.out)
  have hst := HS.out.store (imageB s idx gen l) (image_length s idx gen l HL.out)
  go_wp2_with (first
    | ((with_reducible refine gate_dst (N := 41) rfl ?_); refine wp_load rfl 48 (.tmp 9) rfl _ rfl _ hld ?_)
    | ((with_reducible refine gate_store rfl ?_); refine wp_store rfl 48 (.tmp 8) (.tmp 41) rfl _ rfl _ rfl _ hst ?_))
  simp only [Act.put, List.setIfInBounds_toArray, List.set_cons_zero, List.set_cons_succ]
  refine bodyPost_ret (results_cell_row rfl _ _ w.heap.size 48 (cellsOf (imageB s idx gen l)) (0, 0) _ rfl (setRow_heap _ _ _ _ _ _ HS.out.res) Tryd.underlying48 rfl (image_size _ (image_length s idx gen l HL.out))) rfl ?_
  exact ⟨rfl, below_setRow HS.out.bel (Nat.le_refl _) _⟩
end Go.Proofs.YtmaoleabfmokpaaDoor.G

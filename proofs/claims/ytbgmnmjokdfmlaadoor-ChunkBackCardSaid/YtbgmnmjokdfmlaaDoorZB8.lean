/- Lemmas and contracts that the law ChunkBack leans on (packed by a program of this session out of its texts and the print's words). -/
import Derived.Test.YtbgmnmjokdfmlaaDoorZB7
import Derived.Test.YtbgmnmjokdfmlaaDoorZB6
import Derived.Test.YtbgmnmjokdfmlaaDoorZB4
import Derived.Test.YtbgmnmjokdfmlaaDoorZB2
import Derived.WalkSpells
import Derived.BigRegion
import Derived.Deep.Slices
import Derived.Deep.Fields
import Derived.ChangeSame
import Derived.OpenShut
import Derived.RowKit
import Derived.Test.YtbgmnmjokdfmlaaDoorZB5
import Derived.SizedLaws
import Derived.ChangeSlices
set_option linter.unusedVariables false
set_option linter.unusedSimpArgs false
namespace Go.Proofs.YtbgmnmjokdfmlaaDoor.PA
def partsX (x : S60) : List S60 := (List.range ((x.f1.length + 19) / 20)).map (fun j => ⟨x.f0, partS x.f1 j⟩)
def partsL (l : List S60) : List S60 := l.flatMap partsX
noncomputable def encPj (p : S60) : List Int := encPart (encLb p.f0) p.f1
theorem encC_parts (l : List S60) : encC l = (partsL l).flatMap encPj := by
  rw [encC, partsL, List.flatMap_assoc]
  congr 1
  funext x
  rw [encSer, encPs, partsX, List.flatMap_map]
  rfl
theorem parts_glue (l : List S54) : ∀ k, (List.range k).flatMap (fun j => partS l j) = l.take (k * 20)
  | 0 => by simp
  | k + 1 => by
    rw [List.range_succ, List.flatMap_append, parts_glue l k, List.flatMap_singleton]
    unfold partS plen
    apply List.ext_getElem?
    intro i
    rw [List.getElem?_append, List.length_take]
    by_cases h : i < min (k * 20) l.length
    · rw [if_pos h, List.getElem?_take, List.getElem?_take, if_pos (by omega), if_pos (by omega)]
    · rw [if_neg h, List.getElem?_drop, List.getElem?_take, List.getElem?_take]
      by_cases h2 : i < l.length
      · have e : k * 20 + (i - min (k * 20) l.length) = i := by omega
        rw [e]
        by_cases h3 : i < (k + 1) * 20
        · rw [if_pos (by omega), if_pos h3]
        · rw [if_neg (by omega), if_neg h3]
      · rw [show l[i]? = none from List.getElem?_eq_none (by omega)]
        have : l[k * 20 + (i - min (k * 20) l.length)]? = none := List.getElem?_eq_none (by omega)
        rw [this]
        split <;> split <;> rfl
theorem catL_map (t : List S65) (f0 : List S65) : ∀ qs : List (List S54), catL t (qs.map (fun q => ⟨f0, q⟩)) = if cmpL f0 t = 0 then qs.flatten else []
  | [] => by simp [catL]
  | q :: qs => by
    rw [List.map_cons, catL, catL_map t f0 qs]
    split <;> simp
theorem catL_partsX (t : List S65) (x : S60) : catL t (partsX x) = if cmpL x.f0 t = 0 then x.f1 else [] := by
  have h : partsX x = ((List.range ((x.f1.length + 19) / 20)).map (fun j => partS x.f1 j)).map (fun q => ⟨x.f0, q⟩) := by rw [partsX, List.map_map]; rfl
  rw [h, catL_map]
  rw [show ((List.range ((x.f1.length + 19) / 20)).map (fun j => partS x.f1 j)).flatten = x.f1 from by
    rw [← List.flatMap_def, parts_glue, List.take_of_length_le (by omega)]]
theorem catL_parts (t : List S65) : ∀ l : List S60, catL t (partsL l) = catL t l
  | [] => rfl
  | x :: l => by
    rw [show partsL (x :: l) = partsX x ++ partsL l from rfl, catL_append, catL_partsX, catL_parts t l]
    rfl
theorem join_parts {l : List S60} (h : SrtL l) (hn : ∀ x ∈ l, x.f1 ≠ []) (hs : ∀ x ∈ l, Rs x.f1) : joinL (partsL l) = l :=
  catL_ext (SrtL_join _) h (join_ne _) hn (fun t => by rw [catL_join, catL_parts, ← catL_join, join_done h hn hs])
theorem canS_Rs {l : List S54} (h : Rs l) (hl : l.length ≤ 65535) : canS l = true := by
  unfold canS
  rw [Bool.and_eq_true, List.all_eq_true]
  refine ⟨fun i hi => decide_eq_true ?_, decide_eq_true hl⟩
  have hi := List.mem_range.1 hi
  have := Rs_get h (i := i) (j := i + 1) (by omega) (by omega)
  simpa [rd_T54] using this
theorem canC_fine {l : List S60} (h : SrtL l) (hn : ∀ x ∈ l, x.f1 ≠ []) (hs : ∀ x ∈ l, Rs x.f1) (hlab : ∀ x ∈ l, canL x.f0 = true) (h65 : ∀ x ∈ l, x.f1.length ≤ 65535) : canC l = true :=
  canC_ok fun j hj => by
    have hm := rd_memZ l j hj
    unfold okC
    rw [canX_ok (hlab _ hm) (fun e => hn _ hm (List.eq_nil_of_length_eq_zero e)) (canS_Rs (hs _ hm) (h65 _ hm)), Bool.true_and]
    rcases Nat.eq_zero_or_pos j with h0 | h0
    · rw [decide_eq_true h0]; rfl
    · have := SrtL_get h (i := j - 1) (j := j) (by omega) hj
      rw [decide_eq_true this, Bool.or_true]
end Go.Proofs.YtbgmnmjokdfmlaaDoor.PA
namespace Go.Proofs.YtbgmnmjokdfmlaaDoor.PA
open Go.RowKit Go.Proofs.YtbgmnmjokdfmlaaDoor.G Go.Proofs.YtbgmnmjokdfmlaaDoorW.PrintWords Go.Proofs.YtbgmnmjokdfmlaaDoorW.PrintLast Go.Proofs.YtbgmnmjokdfmlaaDoorW.PrintMore
theorem tot_le {m : Nat} : ∀ {l : List S60}, (∀ x ∈ l, x.f1.length ≤ m) → tot l ≤ l.length * m
  | [], _ => Nat.zero_le _
  | x :: l, h => by
    have h1 := h x (List.mem_cons_self ..)
    have h2 := tot_le (fun y hy => h y (List.mem_cons_of_mem _ hy) : ∀ y ∈ l, y.f1.length ≤ m)
    show x.f1.length + tot l ≤ (l.length + 1) * m
    rw [Nat.add_mul, Nat.one_mul]
    omega
theorem tot_small {l : List S60} {n m : Nat} (h8 : l.length ≤ n) (h : ∀ x ∈ l, x.f1.length ≤ m) (hb : n * m ≤ 1000000 := by decide) : tot l ≤ 1000000 :=
  Nat.le_trans (tot_le h) (Nat.le_trans (Nat.mul_le_mul_right m h8) hb)
theorem joinL_len (l : List S60) : (joinL l).length ≤ l.length := by
  have := (groups_len' l).1
  show ((groupsL l).map _).length ≤ _
  rwa [List.length_map]
theorem joinL_mem {l : List S60} {x : S60} (h : x ∈ joinL l) : (∃ s ∈ l, x.f0 = s.f0) ∧ x.f1.length ≤ tot l := by
  obtain ⟨y, hy, rfl⟩ := List.mem_map.1 h
  exact ⟨groups_lab l y hy, Nat.le_trans (risenL_len y.f1) ((groups_len' l).2 y hy)⟩
theorem kS_heapJ : Kd.Heap k60 := Kd.heap_iso _ (Kd.heap_pair (Kd.heap_slice _ (Kd.heap_iso _ (Kd.heap_pair Kd.heap_string Kd.heap_string))) (Kd.heap_slice _ (Kd.heap_iso _ (Kd.heap_pair (Kd.heap_int .i64) (Kd.heap_int .u64)))))
end Go.Proofs.YtbgmnmjokdfmlaaDoor.PA
namespace Go.Proofs.YtbgmnmjokdfmlaaDoor.PA
open Go.RowKit Go.Proofs.YtbgmnmjokdfmlaaDoor.G Go.Proofs.YtbgmnmjokdfmlaaDoorW.PrintWords Go.Proofs.YtbgmnmjokdfmlaaDoorW.PrintLast Go.Proofs.YtbgmnmjokdfmlaaDoorW.PrintMore
set_option maxHeartbeats 800000 in
theorem CloneB.calls (A0 : Option Addr) (c0 : Nat) (l0 : List Int) (n : Nat) (w : World) (hn : l0.length = n) (hr0 : Kd.C (Kd.int .u8) w A0 l0.length l0) (hc0 : l0.length ≤ c0) (hlen : l0.length ≤ 1000000) :
    Calls Tryd.prog 19 #[.slice A0 n c0] w fun e w' => ∃ v0_ : Value, e = .returned (v0_) ∧ Kd.R (Kd.int .u8) 5 w' w.heap.size (fun _ => True) v0_ l0 ∧ Below w.heap.size w w' := by
  subst hn
  have HR := Aside0.mk hr0
  have HL := Aside0.mk hlen
  have hnil := fun W n c => Lib.run_eql_slice_nil (P := Tryd.prog) W 22 5 A0 n c 0 0 Tryd.underlying22
  clear hr0 hc0 hlen
  cases A0 with
  | none =>
    have h0 : l0 = [] := by
      rcases Nat.eq_zero_or_pos l0.length with h0 | h0
      · exact List.eq_nil_of_length_eq_zero h0
      · obtain ⟨ad, e, _⟩ := HR.out.2.2 h0
        cases e
    subst h0
    go_enter Tryd.func19, Tryd.ntmps19
    go_wp2
    go_ret
    exact ⟨_, rfl, Kd.R_nil _ _ _ _ _, Below.refl _ _⟩
  | some ad =>
    go_enter Tryd.func19, Tryd.ntmps19
    have hE := Aside0.mk (R_empty (Kd.int .u8) 5 w.heap.size w (fun _ => True) (Nat.le_refl _) trivial)
    go_wp2_with ((with_reducible refine gate_dst (N := 7) rfl ?_); refine Kd.R_append_row (Value.int .u8) 0 (h1 := fun _ => rfl) w.heap.size rfl (.tmp 5) (.tmp 6) 22 5 (.int .u8 0) 1 rfl Tryd.underlying22 infoU8 rfl (by decide) _ [] l0 (some ad) l0.length c0 (fun _ => True) rfl rfl (fun _ _ => trivial) hE.out (Kd.C_below HR.out (below_alloc (Below.refl _ _) _)) (below_alloc (Below.refl _ _) _) ?hb ?hl ?_; (case hb => simp); (case hl => (have := HL.out; simp; omega)); intro v1 w1 hR1 hB1 hg_ ho_; rw [List.nil_append] at hR1; have HR1 := Aside0.mk hR1; have HB1 := Aside0.mk hB1; clear hR1 hB1 hg_ ho_)
    go_ret
    exact ⟨_, rfl, HR1.out, HB1.out⟩
end Go.Proofs.YtbgmnmjokdfmlaaDoor.PA
namespace Go.Proofs.YtbgmnmjokdfmlaaDoor.PA
open Go.RowKit Go.Proofs.YtbgmnmjokdfmlaaDoor.G Go.Proofs.YtbgmnmjokdfmlaaDoorW.PrintWords Go.Proofs.YtbgmnmjokdfmlaaDoorW.PrintLast Go.Proofs.YtbgmnmjokdfmlaaDoorW.PrintMore
def CU (W : World) (g : Nat) (on : Bool) (v : Value) (q : Int) (br : Bool) : Prop := W.heap[g]? = some (.cells #[.bool on, v, .int .i64 q, .bool br] 25 (0, 0))
theorem CU.below {w w1 : World} {g : Nat} {on : Bool} {v : Value} {q : Int} {br : Bool} (h : CU w g on v q br) (hb : Below w.heap.size w w1) : CU w1 g on v q br := blk_below h hb
def noEntry : Value := .tuple #[.agg #[.slice none 0 0, .int .i64 0, .int .i64 0, .int .i64 0, .int .i64 0], .slice none 0 0, .bool false]
set_option maxHeartbeats 4000000 in
set_option maxRecDepth 100000 in
theorem next_nil.calls (W : World) : Calls Tryd.prog 9 #[.pointer none] W fun e w' => e = .returned noEntry ∧ Below W.heap.size W w' := by
  go_enter Tryd.func9, Tryd.ntmps9
  go_wp2
  refine bodyPost_ret (v := noEntry) (by simp [results, Tryd.f9, go_sem, noEntry]) rfl ?_
  exact ⟨rfl, below_alloc (Below.refl _ _) _⟩
set_option maxHeartbeats 4000000 in
set_option maxRecDepth 100000 in
theorem next_off.calls (W : World) (g : Nat) (v : Value) (q : Int) (br : Bool) (h : CU W g false v q br) : Calls Tryd.prog 9 #[.pointer (some ⟨g, 0, none⟩)] W fun e w' => e = .returned noEntry ∧ Below W.heap.size W w' := by
  have b0 := (blk_cell h 0).trans rfl
  have b1 := (blk_cell h 1).trans rfl
  have b3 := (blk_cell h 3).trans rfl
  have hlt : g < W.heap.size := blk_lt h
  clear h
  go_enter Tryd.func9, Tryd.ntmps9
  go_wp2
  refine bodyPost_ret (v := noEntry) (by simp [results, Tryd.f9, go_sem, noEntry]) rfl ?_
  exact ⟨rfl, below_alloc (Below.refl _ _) _⟩
set_option maxHeartbeats 4000000 in
set_option maxRecDepth 100000 in
theorem next_broken.calls (W : World) (g : Nat) (v : Value) (q : Int) (h : CU W g true v q true) : Calls Tryd.prog 9 #[.pointer (some ⟨g, 0, none⟩)] W fun e w' => e = .returned noEntry ∧ Below W.heap.size W w' := by
  have b0 := (blk_cell h 0).trans rfl
  have b1 := (blk_cell h 1).trans rfl
  have b3 := (blk_cell h 3).trans rfl
  have hlt : g < W.heap.size := blk_lt h
  clear h
  go_enter Tryd.func9, Tryd.ntmps9
  go_wp2
  refine bodyPost_ret (v := noEntry) (by simp [results, Tryd.f9, go_sem, noEntry]) rfl ?_
  exact ⟨rfl, below_alloc (Below.refl _ _) _⟩
set_option maxHeartbeats 4000000 in
set_option maxRecDepth 100000 in
theorem next_end.calls (W : World) (g : Nat) (A : Option Addr) (c : Nat) (q : Int) (h : CU W g true (.slice A 0 c) q false) : Calls Tryd.prog 9 #[.pointer (some ⟨g, 0, none⟩)] W fun e w' => e = .returned noEntry ∧ Below W.heap.size W w' := by
  have b0 := (blk_cell h 0).trans rfl
  have b1 := (blk_cell h 1).trans rfl
  have b3 := (blk_cell h 3).trans rfl
  have hlt : g < W.heap.size := blk_lt h
  clear h
  go_enter Tryd.func9, Tryd.ntmps9
  go_wp2
  refine bodyPost_ret (v := noEntry) (by simp [results, Tryd.f9, go_sem, noEntry]) rfl ?_
  exact ⟨rfl, below_alloc (Below.refl _ _) _⟩
set_option maxHeartbeats 4000000 in
set_option maxRecDepth 100000 in
theorem err_nil.calls (W : World) : Calls Tryd.prog 10 #[.pointer none] W fun e w' => e = .returned (.int .i64 2) ∧ Below W.heap.size W w' := by
  go_enter Tryd.func10, Tryd.ntmps10
  go_wp2
  go_ret
  exact ⟨rfl, Below.refl _ _⟩
set_option maxHeartbeats 4000000 in
set_option maxRecDepth 100000 in
theorem err_off.calls (W : World) (g : Nat) (v : Value) (q : Int) (br : Bool) (h : CU W g false v q br) : Calls Tryd.prog 10 #[.pointer (some ⟨g, 0, none⟩)] W fun e w' => e = .returned (.int .i64 2) ∧ Below W.heap.size W w' := by
  have b0 := (blk_cell h 0).trans rfl
  have b3 := (blk_cell h 3).trans rfl
  clear h
  go_enter Tryd.func10, Tryd.ntmps10
  go_wp2
  go_ret
  exact ⟨rfl, Below.refl _ _⟩
set_option maxHeartbeats 4000000 in
set_option maxRecDepth 100000 in
theorem err_broken.calls (W : World) (g : Nat) (v : Value) (q : Int) (h : CU W g true v q true) : Calls Tryd.prog 10 #[.pointer (some ⟨g, 0, none⟩)] W fun e w' => e = .returned (.int .i64 5) ∧ Below W.heap.size W w' := by
  have b0 := (blk_cell h 0).trans rfl
  have b3 := (blk_cell h 3).trans rfl
  clear h
  go_enter Tryd.func10, Tryd.ntmps10
  go_wp2
  go_ret
  exact ⟨rfl, Below.refl _ _⟩
set_option maxHeartbeats 4000000 in
set_option maxRecDepth 100000 in
theorem err_ok.calls (W : World) (g : Nat) (v : Value) (q : Int) (h : CU W g true v q false) : Calls Tryd.prog 10 #[.pointer (some ⟨g, 0, none⟩)] W fun e w' => e = .returned (.int .i64 0) ∧ Below W.heap.size W w' := by
  have b0 := (blk_cell h 0).trans rfl
  have b3 := (blk_cell h 3).trans rfl
  clear h
  go_enter Tryd.func10, Tryd.ntmps10
  go_wp2
  go_ret
  exact ⟨rfl, Below.refl _ _⟩
end Go.Proofs.YtbgmnmjokdfmlaaDoor.PA
namespace Go.Proofs.YtbgmnmjokdfmlaaDoor.PA
open Go.RowKit Go.Proofs.YtbgmnmjokdfmlaaDoor.G Go.Proofs.YtbgmnmjokdfmlaaDoorW.PrintWords Go.Proofs.YtbgmnmjokdfmlaaDoorW.PrintLast Go.Proofs.YtbgmnmjokdfmlaaDoorW.PrintMore
def atC (q : Int) : Int := min (max q 0) 2147483647
set_option maxHeartbeats 4000000 in
set_option maxRecDepth 100000 in
theorem open.calls (A : Option Addr) (c n : Nat) (b : List Int) (q : Int) (w : World) (hn : b.length = n) (hr : Kd.C (Kd.int .u8) w A b.length b) (hc : b.length ≤ c) (hlen : b.length ≤ 1000000) :
    Calls Tryd.prog 11 #[.slice A n c, .int .i64 q] w fun e w' => ∃ (g : Nat) (v : Value), e = .returned (.pointer (some ⟨g, 0, none⟩)) ∧ CU w' g true v (atC q) false ∧ Kd.R (Kd.int .u8) 5 w' w.heap.size (fun _ => True) v b ∧ w.heap.size ≤ g ∧ Below w.heap.size w w' := by
  have CL := Aside0.mk (CloneB.calls A c b n w hn hr hc hlen)
  clear hr hc hlen hn
  go_enter Tryd.func11, Tryd.ntmps11
  go_wp2_with (first | (go_at_call 114; (with_reducible refine CL.out.mono ?_); rintro e w1 ⟨v1, rfl, hr1, hb⟩; have HR1 := Aside0.mk hr1; have HB1 := Aside0.mk hb; clear hb hr1) | (go_at_call 19; (with_reducible refine CL.out.mono ?_); rintro e w1 ⟨v1, rfl, hr1, hb⟩; obtain ⟨A9, c9, rfl⟩ := Kd.R_slice hr1; have HR1 := Aside0.mk hr1; have HB1 := Aside0.mk hb; clear hb hr1))
  go_ret
  exact ⟨_, _, rfl, blk_new _ _, Kd.R_below HR1.out (below_alloc (Below.refl _ _) _), HB1.out.size, below_alloc HB1.out _⟩
end Go.Proofs.YtbgmnmjokdfmlaaDoor.PA
namespace Go.Proofs.YtbgmnmjokdfmlaaDoor.PA
open Go.RowKit Go.Proofs.YtbgmnmjokdfmlaaDoor.G Go.Proofs.YtbgmnmjokdfmlaaDoorW.PrintWords Go.Proofs.YtbgmnmjokdfmlaaDoorW.PrintLast Go.Proofs.YtbgmnmjokdfmlaaDoorW.PrintMore
theorem add_block (a : Addr) (k : Nat) : (a.add k).block = a.block := by unfold Addr.add; split <;> rfl
theorem cutB2 (A : Option Addr) (c : Nat) (xs : List Int) (m : Nat) (hm : m ≤ xs.length) (hc : xs.length ≤ c) :
    ∃ (A' : Option Addr) (c' : Nat) (r : List Int), Aside0 (r = xs.drop m) ∧ Aside0 (∀ w : World, Kd.C (Kd.int .u8) w A xs.length xs → Kd.C (Kd.int .u8) w A' r.length r) ∧ r.length ≤ c' ∧ Aside0 (∀ a', A' = some a' → ∃ a, A = some a ∧ a'.block = a.block) ∧
      ∀ i : Int, i = (m : Int) → ∀ W : World, (Instr.slice 22 (.slice A xs.length c) (some (.int .i64 i)) none none).run Tryd.prog W = .ok (.slice A' r.length c') W := by
  obtain ⟨i0, hi, hsz⟩ := infoN5
  refine ⟨if c = m then A else A.map (·.add (m * (Kd.int .u8).sz)), c - m, xs.drop m, ⟨rfl⟩, ⟨fun w h => Kd.C_drop h hm hc⟩, by rw [List.length_drop]; omega, ⟨fun a' h => ?_⟩, fun i hi' W => ?_⟩
  · split at h
    · exact ⟨a', h, rfl⟩
    · obtain ⟨a, ha, rfl⟩ := Option.map_eq_some_iff.1 h
      exact ⟨a, ha, add_block a _⟩
  · subst hi'
    have hu := Tryd.underlying22
    have hel : Tryd.prog.elem 22 = 5 := by simp [Program.elem, hu]
    have hu' : Tryd.prog.underlying 22 = some (.slice (Tryd.prog.elem 22)) := by rw [hel]; exact hu
    rw [run_slice_l W 22 A xs.length c hu' .i64 (m : Int) (by omega) (by omega), hel]
    simp only [sizeOf, typeInfo, Sem.run_bind, hi, sliced, Result.andThen, hsz, Int.toNat_natCast, List.length_drop]
    cases A <;> simp [go_sem, hi, hsz, Kd.int, Kd.scalar]
theorem C_far {W : World} {A : Option Addr} {n : Nat} {xs : List Int} (h : Kd.C (Kd.int .u8) W A n xs) {p : Addr} (hne : ∀ a, A = some a → a.block ≠ p.block) (u : Value) : Kd.C (Kd.int .u8) (W.setCell p u) A n xs := by
  refine ⟨h.1, h.2.1, fun h0 => ?_⟩
  obtain ⟨ad, hA, hj⟩ := h.2.2 h0
  refine ⟨ad, hA, fun j q hq => ?_⟩
  obtain ⟨cs, h1, h2, h3⟩ := hj j q hq
  exact ⟨cs, h1, h2, fun i v hv => (World.cell?_of_block (Below.heap_setCell W p u _ (by have := hne ad hA; rwa [add_block]))).trans (h3 i v hv)⟩
theorem next_res (tmps : Array Value) (W : World) (r : Nat) (x0 x1 x2 x3 x4 : Value) (h : W.heap[r]? = some (.cells #[x0, x1, x2, x3, x4] 29 (0, 0))) (h2 : tmps.getD 2 undef = .pointer (some ⟨r, 0, none⟩)) :
    (results Tryd.f9 tmps).run Tryd.prog W = .ok (.tuple #[.agg #[x0, x1, x2, x3, x4], tmps.getD 3 undef, tmps.getD 4 undef]) W := by
  have c0 := (blk_cell h 0).trans rfl
  have c1 := (blk_cell h 1).trans rfl
  have c2 := (blk_cell h 2).trans rfl
  have c3 := (blk_cell h 3).trans rfl
  have c4 := (blk_cell h 4).trans rfl
  simp at h2
  simp [results, Tryd.f9, go_sem, h2, c0, c1, c2, c3, c4]
theorem R_drew2 {α : Type} {d : Kd α} {e base B g : Nat} {ok : Nat → Prop} {W : World} {v x y : Value} {i j : Nat} {xs : List α} (hok : ∀ k, ok k → k ≠ g) (hb : B ≤ base) (h : Kd.R d e W base ok v xs) : Kd.R d e ((W.setCell ⟨g, i, none⟩ x).setCell ⟨g, j, none⟩ y).drew B (fun _ => True) v xs :=
  Kd.R_mono (Kd.R_lower (Kd.R_drew (Kd.R_far (Kd.R_far h (p := ⟨g, i, none⟩) hok x) (p := ⟨g, j, none⟩) hok y)) hb) (fun _ _ => trivial)
theorem But.up {O B : Nat} {a b : World} (h : But O B a b) {p : Addr} (hp : B ≤ p.block) (v : Value) : But O B a (b.setCell p v) :=
  ⟨h.os, h.tape, h.output, by simpa using h.size, fun k hk hn => (Below.heap_setCell b p v k (by omega)).trans (h.block k hk hn)⟩
theorem cell_in {w : World} {a : Addr} {v : Value} (h : w.cell? a = some v) : a.block < w.heap.size := by
  rcases Nat.lt_or_ge a.block w.heap.size with h1 | h1
  · exact h1
  · simp [World.cell?, Array.getElem?_eq_none h1] at h
theorem C_lt {w : World} {A : Option Addr} {b : List Int} (h : Kd.C (Kd.int .u8) w A b.length b) (h0 : 0 < b.length) (a : Addr) (ha : A = some a) : a.block < w.heap.size := by
  obtain ⟨ad, rfl, hc⟩ := cell0 h h0
  cases ha
  exact cell_in hc
theorem CU.set3 {W : World} {g : Nat} {on : Bool} {v : Value} {q : Int} {br : Bool} (h : CU W g on v q br) (x : Bool) : CU (W.setCell ⟨g, 3, none⟩ (.bool x)) g on v q x := blk_put h 3 _ rfl
theorem CU.set1 {W : World} {g : Nat} {on : Bool} {v : Value} {q : Int} {br : Bool} (h : CU W g on v q br) (x : Value) : CU (W.setCell ⟨g, 1, none⟩ x) g on x q br := blk_put h 1 _ rfl
theorem CU.set2 {W : World} {g : Nat} {on : Bool} {v : Value} {q : Int} {br : Bool} (h : CU W g on v q br) (x : Int) : CU (W.setCell ⟨g, 2, none⟩ (.int .i64 x)) g on v x br := blk_put h 2 _ rfl
set_option maxHeartbeats 4000000 in
set_option maxRecDepth 100000 in
theorem next.bad (g : Nat) (A : Option Addr) (c n : Nat) (b : List Int) (q : Int) (w : World) (hcu : CU w g true (.slice A n c) q false) (hn : b.length = n) (hC : Kd.C (Kd.int .u8) w A n b) (hc : n ≤ c) (hok : okB b = true) (h0 : 0 < n) (hlen : n ≤ 1000000) (hseg : n ≤ 2504 ∨ segN b ≤ 2500) (hT : TabZ w) (hE : chunkB b = ([], [], 0)) :
    Calls Tryd.prog 9 #[.pointer (some ⟨g, 0, none⟩)] w fun e w' => e = .returned noEntry ∧ CU w' g true (.slice A n c) q true ∧ But g w.heap.size w w' := by
  subst hn
  have HCU := Aside0.mk hcu
  have HC := Aside0.mk hC
  have CH := Aside0.mk (fun W (hb : Below w.heap.size w W) => chunkB.calls A c b.length b W rfl (Kd.C_below hC hb) hc hok hlen hseg (hT.below hb))
  have b0 := (blk_cell hcu 0).trans rfl
  have b1 := (blk_cell hcu 1).trans rfl
  have b2 := (blk_cell hcu 2).trans rfl
  have b3 := (blk_cell hcu 3).trans rfl
  have hgl : g < w.heap.size := blk_lt hcu
  have hb0 : ((b.length : Int) == 0) = false := beq_eq_false_iff_ne.2 (by omega)
  have HE := Aside0.mk hE
  have HR0 := Aside0.mk (blk_new w (.cells #[.slice none 0 0, .int .i64 0, .int .i64 0, .int .i64 0, .int .i64 0] 29 (0, 0)))
  have HB0 := Aside0.mk (below_alloc (Below.refl w.heap.size w) (.cells #[.slice none 0 0, .int .i64 0, .int .i64 0, .int .i64 0, .int .i64 0] 29 (0, 0)))
  clear hcu hC hc hok h0 hseg hT hE
  go_enter Tryd.func9, Tryd.ntmps9
  go_wp2_with (first | (go_at_call 29; (with_reducible refine (CH.out _ HB0.out).mono ?_); rintro e w1 ⟨v1, v2, rfl, h1, h2, hb⟩; rw [HE.out] at h1 h2 ⊢; dsimp only at h1 h2 ⊢; have HB1 := Aside0.mk (below_step HB0.out hb); have HCU1 := Aside0.mk (CU.below HCU.out HB1.out); have HR1 := Aside0.mk (blk_below HR0.out hb); have c0 := (blk_cell HCU1.out 0).trans rfl; have c1 := (blk_cell HCU1.out 1).trans rfl; have c2 := (blk_cell HCU1.out 2).trans rfl; have c3 := (blk_cell HCU1.out 3).trans rfl; have cf := blk_frozen HCU1.out 3; have r0 := (blk_cell HR1.out 0).trans rfl; have r1 := (blk_cell HR1.out 1).trans rfl; have r2 := (blk_cell HR1.out 2).trans rfl; have r3 := (blk_cell HR1.out 3).trans rfl; have r4 := (blk_cell HR1.out 4).trans rfl; have f0 := blk_frozen HR1.out 0; have f1 := blk_frozen HR1.out 1; have f2 := blk_frozen HR1.out 2; have f3 := blk_frozen HR1.out 3; have f4 := blk_frozen HR1.out 4; have hne : ¬ g = w.heap.size := (by omega); have hne' : ¬ w.heap.size = g := (by omega); clear hb h1 h2))
  have hG := CU.set3 HCU1.out true
  have hB := (But.of_below HB1.out (O := g)).setCell 3 (.bool true)
  have hR := blk_far HR1.out (p := ⟨g, 3, none⟩) hne' (.bool true)
  clear HCU1 HR1 c0 c1 c2 c3 cf r0 r1 r2 r3 r4 f0 f1 f2 f3 f4
  generalize w1.setCell ⟨g, 3, none⟩ (.bool true) = W1 at *
  refine bodyPost_ret (next_res _ _ w.heap.size _ _ _ _ _ (blk_put (blk_put (blk_put (blk_put (blk_put hR 0 _ rfl) 1 _ rfl) 2 _ rfl) 3 _ rfl) 4 _ rfl) rfl) rfl ?_
  refine ⟨rfl, ?_, ?_⟩
  · exact blk_far (blk_far (blk_far (blk_far (blk_far hG hne _) hne _) hne _) hne _) hne _
  · exact But.up (But.up (But.up (But.up (But.up hB (Nat.le_refl _) _) (Nat.le_refl _) _) (Nat.le_refl _) _) (Nat.le_refl _) _) (Nat.le_refl _) _
set_option maxHeartbeats 4000000 in
set_option maxRecDepth 100000 in
theorem next.okF (g : Nat) (A : Option Addr) (c n : Nat) (b : List Int) (q : Int) (w : World) (hcu : CU w g true (.slice A n c) q false) (hn : b.length = n) (hC : Kd.C (Kd.int .u8) w A n b) (hc : n ≤ c) (hok : okB b = true) (h0 : 0 < n) (hlen : n ≤ 1000000) (hseg : n ≤ 2504 ∨ segN b ≤ 2500) (hT : TabZ w) (hq : 0 ≤ q ∧ q ≤ 4294967296) (ls : List S65) (ss : List S54) (m : Nat) (hE : chunkB b = (ls, ss, (m : Int))) (hm : 1 ≤ m ∧ m ≤ n) (hs : 1 ≤ ss.length ∧ ss.length ≤ 20) (hne0 : ∀ a, A = some a → a.block ≠ g) :
    Calls Tryd.prog 9 #[.pointer (some ⟨g, 0, none⟩)] w fun e w' => ∃ (v1 v2 : Value) (A' : Option Addr) (c' : Nat), e = .returned (.tuple #[.agg #[v1, .int .i64 q, .int .i64 m, .int .i64 (rd_T54 ss 0).f0, .int .i64 (rd_T54 ss ((ss.length : Int) - 1)).f0], v2, .bool true]) ∧ Kd.R k65 65 w' w.heap.size (fun _ => True) v1 ls ∧ Kd.R k54 54 w' w.heap.size (fun _ => True) v2 ss ∧ CU w' g true (.slice A' (b.drop m).length c') (q + m) false ∧ Kd.C (Kd.int .u8) w' A' (b.drop m).length (b.drop m) ∧ (b.drop m).length ≤ c' ∧ (∀ a, A' = some a → a.block ≠ g) ∧ But g w.heap.size w w' ∧ (∀ W : World, Kd.C (Kd.int .u8) W A n b → Kd.C (Kd.int .u8) W A' (b.drop m).length (b.drop m)) := by
  subst hn
  have HCU := Aside0.mk hcu
  have HC := Aside0.mk hC
  have CH := Aside0.mk (fun W (hb : Below w.heap.size w W) => chunkB.calls A c b.length b W rfl (Kd.C_below hC hb) hc hok hlen hseg (hT.below hb))
  have b0 := (blk_cell hcu 0).trans rfl
  have b1 := (blk_cell hcu 1).trans rfl
  have b2 := (blk_cell hcu 2).trans rfl
  have b3 := (blk_cell hcu 3).trans rfl
  have hgl : g < w.heap.size := blk_lt hcu
  have hb0 : ((b.length : Int) == 0) = false := beq_eq_false_iff_ne.2 (by omega)
  have HE := Aside0.mk hE
  have HR0 := Aside0.mk (blk_new w (.cells #[.slice none 0 0, .int .i64 0, .int .i64 0, .int .i64 0, .int .i64 0] 29 (0, 0)))
  have HB0 := Aside0.mk (below_alloc (Below.refl w.heap.size w) (.cells #[.slice none 0 0, .int .i64 0, .int .i64 0, .int .i64 0, .int .i64 0] 29 (0, 0)))
  obtain ⟨A', c', r, hr, HCR, hc', HAB, hcut⟩ := cutB2 A c b m hm.2 hc
  have hcut1 := hcut (m : Int) rfl
  have HNE := Aside0.mk hne0
  have HAL := Aside0.mk (C_lt hC h0)
  have HRD := Aside0.mk hr.out
  have hq1 := hq.1
  have hq2 := hq.2
  have hs1 := hs.1
  have hs2 := hs.2
  have hm1 := hm.1
  have hm2 := hm.2
  have hm0 : ((m : Int) == 0) = false := beq_eq_false_iff_ne.2 (by omega)
  clear hcu hC hc hok h0 hseg hT hE hr hcut hne0 hq hs hm
  go_enter Tryd.func9, Tryd.ntmps9
  go_wp2_with (first | (go_at_call 29; (with_reducible refine (CH.out _ HB0.out).mono ?_); rintro e w1 ⟨v1, v2, rfl, h1, h2, hb⟩; rw [HE.out] at h1 h2 ⊢; dsimp only at h1 h2 ⊢; obtain ⟨a5, c5, rfl⟩ := Kd.R_slice1 h2 (by omega); obtain ⟨A4, c4, rfl⟩ := Kd.R_slice h1; have HV1 := Aside0.mk h1; have HV2 := Aside0.mk h2; have HB1 := Aside0.mk (below_step HB0.out hb); have HCU1 := Aside0.mk (CU.below HCU.out HB1.out); have HR1 := Aside0.mk (blk_below HR0.out hb); have c0 := (blk_cell HCU1.out 0).trans rfl; have c1 := (blk_cell HCU1.out 1).trans rfl; have c2 := (blk_cell HCU1.out 2).trans rfl; have c3 := (blk_cell HCU1.out 3).trans rfl; have cf1 := blk_frozen HCU1.out 1; have cf2 := blk_frozen HCU1.out 2; have hne : ¬ g = w.heap.size := (by omega); have hne' : ¬ w.heap.size = g := (by omega); clear hb))
  obtain ⟨ad0, had0, s0, _⟩ := at_T54 (Kd.R_reads' h2).2.2 (0 : Int) (by omega) (by omega)
  obtain ⟨ad1, had1, s1, _⟩ := at_T54 (Kd.R_reads' h2).2.2 ((ss.length : Int) - 1) (by omega) (by omega)
  cases had0
  cases had1
  have s0 : w1.cell? a5 = some (.int .i64 (rd_T54 ss 0).f0) := by simpa [Addr.add] using s0
  rw [show ((ss.length : Int) - 1).toNat = ss.length - 1 by omega] at s1
  clear h1 h2
  have s1' := cell_alloc_old (.cells #[.slice none 0 0, .int .i64 0, .int .i64 0, .int .i64 0, .int .i64 0] 29) s1
  have s0' := cell_alloc_old (.cells #[.slice none 0 0, .int .i64 0, .int .i64 0, .int .i64 0, .int .i64 0] 29) s0
  have c2' := cell_alloc_old (.cells #[.slice none 0 0, .int .i64 0, .int .i64 0, .int .i64 0, .int .i64 0] 29) c2
  go_region
  have HB2 := Aside0.mk (below_drew (below_alloc HB1.out (.cells #[.slice A4 ls.length c4, .int .i64 q, .int .i64 m, .int .i64 (rd_T54 ss 0).f0, .int .i64 (rd_T54 ss ((ss.length : Int) - 1)).f0] 29)))
  have HN2 := Aside0.mk (blk_drew (blk_new w1 (.cells #[.slice A4 ls.length c4, .int .i64 q, .int .i64 m, .int .i64 (rd_T54 ss 0).f0, .int .i64 (rd_T54 ss ((ss.length : Int) - 1)).f0] 29)))
  have HW2 := Aside0.mk (below_drew (below_alloc (Below.refl w1.heap.size w1) (.cells #[.slice A4 ls.length c4, .int .i64 q, .int .i64 m, .int .i64 (rd_T54 ss 0).f0, .int .i64 (rd_T54 ss ((ss.length : Int) - 1)).f0] 29)))
  have hnl : w.heap.size < w1.heap.size := blk_lt HR1.out
  clear c0 c1 c2 c3 cf1 cf2 s0 s1 s0' s1' c2' b0 b1 b2 b3
  generalize (w1.alloc (.cells #[.slice A4 ls.length c4, .int .i64 q, .int .i64 m, .int .i64 (rd_T54 ss 0).f0, .int .i64 (rd_T54 ss ((ss.length : Int) - 1)).f0] 29)).drew = W2 at *
  have HCU2 := Aside0.mk (CU.below HCU.out HB2.out)
  have HR2 := Aside0.mk (blk_below HR1.out HW2.out)
  have c1 := (blk_cell HCU2.out 1).trans rfl
  have c2 := (blk_cell HCU2.out 2).trans rfl
  have cf1 := blk_frozen HCU2.out 1
  have cf2 := blk_frozen HCU2.out 2
  go_wp2
  go_region
  have hgw : g ≠ w1.heap.size := by omega
  have HV12 := Aside0.mk (Kd.R_below HV1.out HW2.out)
  have HV22 := Aside0.mk (Kd.R_below HV2.out HW2.out)
  have HG3 : Aside0 (CU ((W2.setCell ⟨g, 1, none⟩ (.slice A' r.length c')).setCell ⟨g, 2, none⟩ (.int .i64 (q + m))).drew g true (.slice A' r.length c') (q + m) false) := ⟨CU.set2 (CU.set1 HCU2.out _) _⟩
  have HN3 : Aside0 (((W2.setCell ⟨g, 1, none⟩ (.slice A' r.length c')).setCell ⟨g, 2, none⟩ (.int .i64 (q + m))).drew.heap[w1.heap.size]? = _) := ⟨blk_far (blk_far HN2.out (p := ⟨g, 1, none⟩) (Ne.symm hgw) _) (p := ⟨g, 2, none⟩) (Ne.symm hgw) _⟩
  have HR3 : Aside0 (((W2.setCell ⟨g, 1, none⟩ (.slice A' r.length c')).setCell ⟨g, 2, none⟩ (.int .i64 (q + m))).drew.heap[w.heap.size]? = _) := ⟨blk_far (blk_far HR2.out (p := ⟨g, 1, none⟩) hne' _) (p := ⟨g, 2, none⟩) hne' _⟩
  have HBUT3 : Aside0 (But g w.heap.size w ((W2.setCell ⟨g, 1, none⟩ (.slice A' r.length c')).setCell ⟨g, 2, none⟩ (.int .i64 (q + m))).drew) := ⟨by
    have h1 := ((But.of_below HB2.out (O := g)).setCell 1 (.slice A' r.length c')).setCell 2 (.int .i64 (q + m))
    exact ⟨h1.os, h1.tape, h1.output, h1.size, h1.block⟩⟩
  have HN0 := Aside0.mk (fun a (h : A' = some a) => (show a.block ≠ g from by obtain ⟨x, hx, e⟩ := HAB.out a h; rw [e]; exact HNE.out x hx))
  have HC3 : Aside0 (Kd.C (Kd.int .u8) ((W2.setCell ⟨g, 1, none⟩ (.slice A' r.length c')).setCell ⟨g, 2, none⟩ (.int .i64 (q + m))).drew A' r.length r) := ⟨by
    have h1 := HCR.out W2 (Kd.C_below HC.out HB2.out)
    exact Kd.C_below (C_far (C_far h1 (p := ⟨g, 1, none⟩) HN0.out _) (p := ⟨g, 2, none⟩) HN0.out _) (below_drew (Below.refl _ _))⟩
  have HV13 : Aside0 (Kd.R k65 65 ((W2.setCell ⟨g, 1, none⟩ (.slice A' r.length c')).setCell ⟨g, 2, none⟩ (.int .i64 (q + m))).drew (w.heap.size + 1) (fun _ => True) (.slice A4 ls.length c4) ls) := ⟨R_drew2 (fun k hk => by have := hk.2.1; rw [World.size_alloc] at this; show k ≠ g; omega) (by simp) (Kd.R_bound HV12.out)⟩
  have HV23 : Aside0 (Kd.R k54 54 ((W2.setCell ⟨g, 1, none⟩ (.slice A' r.length c')).setCell ⟨g, 2, none⟩ (.int .i64 (q + m))).drew (w.heap.size + 1) (fun _ => True) (.slice (some a5) ss.length c5) ss) := ⟨R_drew2 (fun k hk => by have := hk.2.1; rw [World.size_alloc] at this; show k ≠ g; omega) (by simp) (Kd.R_bound HV22.out)⟩
  clear c1 c2 cf1 cf2 HV12 HV22 HV1 HV2 HCU2 HR2 HN2 HB2 HW2
  generalize ((W2.setCell ⟨g, 1, none⟩ (.slice A' r.length c')).setCell ⟨g, 2, none⟩ (.int .i64 (q + m))).drew = W3 at *
  have n0 := (blk_cell HN3.out 0).trans rfl
  have n1 := (blk_cell HN3.out 1).trans rfl
  have n2 := (blk_cell HN3.out 2).trans rfl
  have n3 := (blk_cell HN3.out 3).trans rfl
  have n4 := (blk_cell HN3.out 4).trans rfl
  have r0 := (blk_cell HR3.out 0).trans rfl
  have r1 := (blk_cell HR3.out 1).trans rfl
  have r2 := (blk_cell HR3.out 2).trans rfl
  have r3 := (blk_cell HR3.out 3).trans rfl
  have r4 := (blk_cell HR3.out 4).trans rfl
  have f0 := blk_frozen HR3.out 0
  have f1 := blk_frozen HR3.out 1
  have f2 := blk_frozen HR3.out 2
  have f3 := blk_frozen HR3.out 3
  have f4 := blk_frozen HR3.out 4
  go_wp2
  have HNR := Aside0.mk (fun a (h : A' = some a) => (show a.block ≠ w.heap.size from by obtain ⟨x, hx, e⟩ := HAB.out a h; rw [e]; have := HAL.out x hx; omega))
  have hok : ∀ {P : Nat → Prop} (k : Nat), (True ∧ w.heap.size + 1 ≤ k ∧ P k) → k ≠ w.heap.size := fun k hk => by have := hk.2.1; omega
  refine bodyPost_ret (next_res _ _ w.heap.size _ _ _ _ _ (blk_put (blk_put (blk_put (blk_put (blk_put HR3.out 0 _ rfl) 1 _ rfl) 2 _ rfl) 3 _ rfl) 4 _ rfl) rfl) rfl ?_
  refine ⟨_, _, A', c', rfl, ?_, ?_, ?_, ?_, by rw [← HRD.out]; exact hc', HN0.out, ?_, fun W hW => by rw [← HRD.out]; exact HCR.out W hW⟩
  · exact Kd.R_mono (Kd.R_lower (Kd.R_far (Kd.R_far (Kd.R_far (Kd.R_far (Kd.R_far (Kd.R_bound HV13.out) (p := ⟨w.heap.size, 0, none⟩) hok _) (p := ⟨w.heap.size, 1, none⟩) hok _) (p := ⟨w.heap.size, 2, none⟩) hok _) (p := ⟨w.heap.size, 3, none⟩) hok _) (p := ⟨w.heap.size, 4, none⟩) hok _) (Nat.le_succ _)) (fun _ _ => trivial)
  · exact Kd.R_mono (Kd.R_lower (Kd.R_far (Kd.R_far (Kd.R_far (Kd.R_far (Kd.R_far (Kd.R_bound HV23.out) (p := ⟨w.heap.size, 0, none⟩) hok _) (p := ⟨w.heap.size, 1, none⟩) hok _) (p := ⟨w.heap.size, 2, none⟩) hok _) (p := ⟨w.heap.size, 3, none⟩) hok _) (p := ⟨w.heap.size, 4, none⟩) hok _) (Nat.le_succ _)) (fun _ _ => trivial)
  · rw [← HRD.out]
    exact blk_far (blk_far (blk_far (blk_far (blk_far HG3.out (p := ⟨w.heap.size, 0, none⟩) hne _) (p := ⟨w.heap.size, 1, none⟩) hne _) (p := ⟨w.heap.size, 2, none⟩) hne _) (p := ⟨w.heap.size, 3, none⟩) hne _) (p := ⟨w.heap.size, 4, none⟩) hne _
  · rw [← HRD.out]
    exact C_far (C_far (C_far (C_far (C_far HC3.out (p := ⟨w.heap.size, 0, none⟩) HNR.out _) (p := ⟨w.heap.size, 1, none⟩) HNR.out _) (p := ⟨w.heap.size, 2, none⟩) HNR.out _) (p := ⟨w.heap.size, 3, none⟩) HNR.out _) (p := ⟨w.heap.size, 4, none⟩) HNR.out _
  · exact But.up (But.up (But.up (But.up (But.up HBUT3.out (Nat.le_refl _) _) (Nat.le_refl _) _) (Nat.le_refl _) _) (Nat.le_refl _) _) (Nat.le_refl _) _
theorem next.ok (g : Nat) (A : Option Addr) (c n : Nat) (b : List Int) (q : Int) (w : World) (hcu : CU w g true (.slice A n c) q false) (hn : b.length = n) (hC : Kd.C (Kd.int .u8) w A n b) (hc : n ≤ c) (hok : okB b = true) (h0 : 0 < n) (hlen : n ≤ 1000000) (hseg : n ≤ 2504 ∨ segN b ≤ 2500) (hT : TabZ w) (hq : 0 ≤ q ∧ q ≤ 4294967296) (ls : List S65) (ss : List S54) (m : Nat) (hE : chunkB b = (ls, ss, (m : Int))) (hm : 1 ≤ m ∧ m ≤ n) (hs : 1 ≤ ss.length ∧ ss.length ≤ 20) (hne0 : ∀ a, A = some a → a.block ≠ g) :
    Calls Tryd.prog 9 #[.pointer (some ⟨g, 0, none⟩)] w fun e w' => ∃ (v1 v2 : Value) (A' : Option Addr) (c' : Nat), e = .returned (.tuple #[.agg #[v1, .int .i64 q, .int .i64 m, .int .i64 (rd_T54 ss 0).f0, .int .i64 (rd_T54 ss ((ss.length : Int) - 1)).f0], v2, .bool true]) ∧ Kd.R k65 65 w' w.heap.size (fun _ => True) v1 ls ∧ Kd.R k54 54 w' w.heap.size (fun _ => True) v2 ss ∧ CU w' g true (.slice A' (b.drop m).length c') (q + m) false ∧ Kd.C (Kd.int .u8) w' A' (b.drop m).length (b.drop m) ∧ (b.drop m).length ≤ c' ∧ (∀ a, A' = some a → a.block ≠ g) ∧ But g w.heap.size w w' :=
  (next.okF g A c n b q w hcu hn hC hc hok h0 hlen hseg hT hq ls ss m hE hm hs hne0).mono (fun e w' h => by
    obtain ⟨v1, v2, A', c', h1, h2, h3, h4, h5, h6, h7, h8, _⟩ := h
    exact ⟨v1, v2, A', c', h1, h2, h3, h4, h5, h6, h7, h8⟩)
end Go.Proofs.YtbgmnmjokdfmlaaDoor.PA
namespace Go.Proofs.YtbgmnmjokdfmlaaDoor.PA
open Go.RowKit Go.Proofs.YtbgmnmjokdfmlaaDoor.G Go.Proofs.YtbgmnmjokdfmlaaDoorW.PrintWords Go.Proofs.YtbgmnmjokdfmlaaDoorW.PrintLast Go.Proofs.YtbgmnmjokdfmlaaDoorW.PrintMore
theorem one_C {α : Type} (d : Kd α) {W : World} {g t : Nat} {fr : Nat × Nat} {cs : Array Value} {x : α} (hb : W.heap[g]? = some (.cells cs t fr)) (hK : d.K W x cs.toList) : d.C W (some ⟨g, 0, none⟩) 1 [x] := by
  refine ⟨rfl, by decide, fun _ => ⟨_, rfl, fun j p hj => ?_⟩⟩
  match j, hj with
  | 0, hj =>
    injection hj with hj
    subst hj
    refine ⟨cs.toList, d.K_len hK, hK, fun i u hu => ?_⟩
    rw [Nat.zero_mul, Nat.zero_add, add_plain]
    exact (cell_of_row W g i cs t fr hb).trans (by simpa using hu)
  | n + 1, hj => simp at hj
theorem own_ne {W : World} {base g n c : Nat} {A : Option Addr} {xs : List Int} {on br : Bool} {v : Value} {q : Int} (h : Kd.R (Kd.int .u8) 5 W base (fun _ => True) (.slice A n c) xs) (hc : CU W g on v q br) : ∀ a, A = some a → a.block ≠ g := fun a ha e => by
  subst ha
  obtain ⟨cells, h1⟩ := Kd.R_typed h a.block rfl
  rw [e] at h1
  exact blk_ne h1 hc (by decide) rfl
def awX : S60 := ⟨[⟨⟨#[97]⟩, ⟨#[120]⟩⟩], [⟨1, 2⟩]⟩
theorem awX_l : canL awX.f0 = true := by decide
theorem awX_s : canS awX.f1 = true := by decide
theorem awX_ok : ∀ s ∈ awX.f1, okS s := fun s hs => by
  simp only [awX, List.mem_cons, List.not_mem_nil, or_false] at hs
  subst hs
  exact ⟨⟨by decide, by decide⟩, by decide, by decide⟩
theorem awZ_can : canC [awX] = true := canC_ok fun j hj => by
  obtain rfl : j = 0 := by simp at hj; omega
  exact okC_zero (canX_ok awX_l (by decide) awX_s)
theorem awZ_enc : encC [awX] = encPart (encLb awX.f0) awX.f1 := by
  simp [encC, encSer, encPs, partS, plen, awX]
theorem awX_z : okZ [awX] := fun x hx => by
  simp only [List.mem_cons, List.not_mem_nil, or_false] at hx
  subst hx
  refine ⟨fun y hy => ?_, by decide, by decide, awX_ok⟩
  simp only [awX, List.mem_cons, List.not_mem_nil, or_false] at hy
  subst hy
  exact ⟨by decide, by decide⟩
set_option maxHeartbeats 4000000 in
set_option maxRecDepth 100000 in
theorem cawake.calls (w : World) (hT : TabZ w) :
    Calls Tryd.prog 12 #[] w fun e w' => e = .returned (.bool true) ∧ Below w.heap.size w w' := by
  obtain ⟨L, hL⟩ : ∃ L, encPart (encLb awX.f0) awX.f1 = L := ⟨_, rfl⟩
  have hp := chunkB_part awX.f0 awX.f1 [] awX_l awX_s awX_ok (by decide) (by decide)
  have hok := encPart_okB awX_l awX_s awX_ok (by decide)
  have hLl := encPart_len (encLb_len awX_l) (show awX.f1.length ≤ 20 by decide) awX_ok awX_s
  have hL0 : 4 ≤ (encPart (encLb awX.f0) awX.f1).length := by
    rw [encPart, List.length_append, beL_length]
    omega
  have henc := awZ_enc
  rw [List.append_nil] at hp
  rw [hL] at hp hok hLl hL0 henc
  have HE := Aside0.mk (show encCF [awX] = (L, 0) by rw [encCF, if_pos awZ_can, henc])
  have HP := Aside0.mk hp
  have HOK := Aside0.mk hok
  have HT := Aside0.mk hT
  have HLl := Aside0.mk hLl
  have HL0 := Aside0.mk hL0
  clear hp hok hLl hL0 henc hT hL
  obtain ⟨W3, hW3⟩ : ∃ W3, (((w.alloc (.cells #[.string ⟨#[97]⟩, .string ⟨#[120]⟩] 65)).alloc (.cells #[.int .i64 1, .int .u64 2] 54)).alloc (.cells #[.slice (some ⟨w.heap.size, 0, none⟩) 1 1, .slice (some ⟨w.heap.size + 1, 0, none⟩) 1 1] 60)) = W3 := ⟨_, rfl⟩
  have HB3 : Aside0 (Below w.heap.size w W3) := ⟨by rw [← hW3]; exact below_alloc (below_alloc (below_alloc (Below.refl _ _) _) _) _⟩
  have hb1 : W3.heap[w.heap.size]? = some (.cells #[.string ⟨#[97]⟩, .string ⟨#[120]⟩] 65 (0, 0)) := by
    rw [← hW3]; exact blk_alloc (blk_alloc (blk_new w _) _) _
  have hb2 : W3.heap[w.heap.size + 1]? = some (.cells #[.int .i64 1, .int .u64 2] 54 (0, 0)) := by
    rw [← hW3]
    have := blk_new (w.alloc (.cells #[.string ⟨#[97]⟩, .string ⟨#[120]⟩] 65)) (.cells #[.int .i64 1, .int .u64 2] 54)
    rw [World.size_alloc] at this
    exact blk_alloc this _
  have hb3 : W3.heap[w.heap.size + 1 + 1]? = some (.cells #[.slice (some ⟨w.heap.size, 0, none⟩) 1 1, .slice (some ⟨w.heap.size + 1, 0, none⟩) 1 1] 60 (0, 0)) := by
    rw [← hW3]
    have := blk_new ((w.alloc (.cells #[.string ⟨#[97]⟩, .string ⟨#[120]⟩] 65)).alloc (.cells #[.int .i64 1, .int .u64 2] 54)) (.cells #[.slice (some ⟨w.heap.size, 0, none⟩) 1 1, .slice (some ⟨w.heap.size + 1, 0, none⟩) 1 1] 60)
    rwa [World.size_alloc, World.size_alloc] at this
  have hC := one_C k60 (x := awX) hb3 (k60_mk W3 awX (Nat.le_refl 1) (one_C k65 (x := ⟨⟨#[97]⟩, ⟨#[120]⟩⟩) hb1 (k65_mk W3 _)) (Nat.le_refl 1) (one_C k54 (x := ⟨1, 2⟩) hb2 (k54_mk W3 _)))
  have CE := Aside0.mk (encCF.calls (some ⟨w.heap.size + 1 + 1, 0, none⟩) 1 1 [awX] L 0 W3 rfl hC (Nat.le_refl 1) awX_z (by decide) (fun x hx => by simp only [List.mem_cons, List.not_mem_nil, or_false] at hx; subst hx; decide) (HT.out.below HB3.out) HE.out)
  clear hC hb1 hb2 hb3
  have hl1 : ((awX.f1.length : Int) == 1) = true := by decide
  go_enter Tryd.func12, Tryd.ntmps12
  go_wp2_with (first | (go_at_call 14; (try rw [hW3]); (with_reducible refine CE.out.mono ?_); rintro e w4 ⟨v4, rfl, hr4, hb4⟩; clear hW3; obtain ⟨a4, c4, rfl⟩ := Kd.R_slice1 hr4 (by have := HL0.out; omega); have HR4 := Aside0.mk (Kd.R_reads' hr4); have HB4 := Aside0.mk (below_step HB3.out hb4); clear hr4 hb4) | (go_at_call 11; (with_reducible refine (open.calls (some a4) c4 L.length L 0 _ rfl HR4.out.2.2 HR4.out.2.1 (by have := HLl.out; omega)).mono ?_); rintro e w5 ⟨g, v5, rfl, hg, hr5, hgw, hb5⟩; obtain ⟨a5, c5, rfl⟩ := Kd.R_slice1 hr5 (by have := HL0.out; omega); have HG := Aside0.mk hg; have HR5 := Aside0.mk (Kd.R_reads' hr5); have HNE := Aside0.mk (own_ne hr5 hg); have HB5 := Aside0.mk (below_step HB4.out hb5); have HGW := Aside0.mk hgw; clear hg hr5 hgw hb5) | (go_at_call 9; (with_reducible refine (next.ok g (some a5) c5 L.length L (atC 0) _ HG.out rfl HR5.out.2.2 HR5.out.2.1 HOK.out (by have := HL0.out; omega) (by have := HLl.out; omega) (.inl (by have := HLl.out; omega)) (HT.out.below HB5.out) (by decide) awX.f0 awX.f1 L.length HP.out ⟨by have := HL0.out; omega, Nat.le_refl _⟩ (by decide) HNE.out).mono ?_); rintro e w6 ⟨v6, v7, A', c', rfl, h6, h7, _, _, _, _, hb6⟩; obtain ⟨a6, c6, rfl⟩ := Kd.R_slice1 h6 (by decide); obtain ⟨a7, c7, rfl⟩ := Kd.R_slice1 h7 (by decide); have HB6 := Aside0.mk (HB5.out.trans (hb6.below (n := w.heap.size) (by have := HGW.out; have := HB4.out.size; omega) HB5.out.size)); clear h6 h7 hb6))
  go_ret
  exact ⟨rfl, below_alloc HB6.out _⟩
end Go.Proofs.YtbgmnmjokdfmlaaDoor.PA
namespace Go.Proofs.YtbgmnmjokdfmlaaDoor.PA
open Go.RowKit Go.Proofs.YtbgmnmjokdfmlaaDoor.G Go.Proofs.YtbgmnmjokdfmlaaDoorW.PrintWords Go.Proofs.YtbgmnmjokdfmlaaDoorW.PrintLast Go.Proofs.YtbgmnmjokdfmlaaDoorW.PrintMore
def fineL (l : List S60) : List S60 := (joinL l).filter (fun x => canL x.f0)
def okP (p : S60) : Prop := canL p.f0 = true ∧ canS p.f1 = true ∧ (∀ s ∈ p.f1, okS s) ∧ 1 ≤ p.f1.length ∧ p.f1.length ≤ 20
theorem partS_pos {l : List S54} {j : Nat} (h : j < (l.length + 19) / 20) : 1 ≤ (partS l j).length ∧ (partS l j).length ≤ 20 := by
  rw [partS_len]
  unfold plen
  omega
theorem partsL_ok {l : List S60} (hz : okZ l) (hc : ∀ x ∈ l, canL x.f0 = true ∧ canS x.f1 = true) : ∀ p ∈ partsL l, okP p := fun p hp => by
  obtain ⟨x, hx, hp⟩ := List.mem_flatMap.1 hp
  obtain ⟨j, hj, rfl⟩ := List.mem_map.1 hp
  have h2 := partS_pos (List.mem_range.1 hj)
  exact ⟨(hc x hx).1, canS_part (hc x hx).2 j, fun s hs => (hz x hx).2.2.2 s (partS_mem hs), h2.1, h2.2⟩
theorem encPj_len {p : S60} (h : okP p) : 1 ≤ (encPj p).length ∧ (encPj p).length ≤ 1014 := by
  refine ⟨?_, encPart_len (encLb_len h.1) h.2.2.2.2 h.2.2.1 h.2.1⟩
  rw [encPj, encPart, List.length_append, beL_length]
  omega
theorem encPj_seg {p : S60} (h : okP p) (r : List Int) : segN (encPj p ++ r) ≤ 2500 := by
  have hu := encLb_len h.1
  have he := encL_len h.2.2.2.2 h.2.2.1 h.2.1
  rw [encPj, encPart, segN_enc _ _ _ (by omega)]
  omega
theorem encPs_okB : ∀ {td : List S60}, (∀ p ∈ td, okP p) → okB (td.flatMap encPj) = true
  | [], _ => rfl
  | p :: td, h => by
    rw [List.flatMap_cons]
    have hp := h p List.mem_cons_self
    exact okB_app (encPart_okB hp.1 hp.2.1 hp.2.2.1 hp.2.2.2.2) (encPs_okB (fun q hq => h q (List.mem_cons_of_mem _ hq)))
structure CurAt (w : World) (g hi : Nat) (td : List S60) (q : Int) : Prop where
  ok : ∀ p ∈ td, okP p
  len : (td.flatMap encPj).length ≤ 1000000
  at_ : ∃ (A : Option Addr) (c : Nat), CU w g true (.slice A (td.flatMap encPj).length c) q false ∧ Kd.F (Kd.int .u8) w (fun k => k < hi ∧ k ≠ g) A (td.flatMap encPj).length (td.flatMap encPj) ∧ (td.flatMap encPj).length ≤ c ∧ ∀ a, A = some a → a.block ≠ g
theorem CurAt.step {w w1 : World} {g hi : Nat} {td : List S60} {q : Int} (h : CurAt w g hi td q) (hb : ∀ k, k < w.heap.size → (k < hi ∨ k = g) → w1.heap[k]? = w.heap[k]?) : CurAt w1 g hi td q := by
  obtain ⟨h1, h2, A, c, h3, h4, h5, h6⟩ := h
  exact ⟨h1, h2, A, c, (hb g (blk_lt h3) (.inr rfl)).trans h3, Kd.F_step h4 (fun k hk hlt => hb k hlt (.inl hk.1)), h5, h6⟩
theorem CurAt.below {w w1 : World} {g hi : Nat} {td : List S60} {q : Int} (h : CurAt w g hi td q) (hb : Below w.heap.size w w1) : CurAt w1 g hi td q := h.step (fun k hk _ => hb.block k hk)
theorem CurAt.lt {w : World} {g hi : Nat} {td : List S60} {q : Int} (h : CurAt w g hi td q) : g < w.heap.size := by
  obtain ⟨_, _, A, c, h3, _⟩ := h
  exact blk_lt h3
theorem CurAt.err {w : World} {g hi : Nat} {td : List S60} {q : Int} (h : CurAt w g hi td q) :
    Calls Tryd.prog 10 #[.pointer (some ⟨g, 0, none⟩)] w fun e w' => e = .returned (.int .i64 0) ∧ Below w.heap.size w w' := by
  obtain ⟨_, _, A, c, h3, _⟩ := h
  exact err_ok.calls w g _ _ h3
theorem nextP_end.calls (g hi : Nat) (q : Int) (w : World) (h : CurAt w g hi [] q) :
    Calls Tryd.prog 9 #[.pointer (some ⟨g, 0, none⟩)] w fun e w' => e = .returned noEntry ∧ CurAt w' g hi [] q ∧ Below w.heap.size w w' := by
  have h0 := h
  obtain ⟨_, _, A, c, h3, _⟩ := h
  refine (next_end.calls w g A c q h3).mono ?_
  rintro e w' ⟨he, hb⟩
  exact ⟨he, h0.below hb, hb⟩
theorem nextP.calls (g hi : Nat) (p : S60) (td : List S60) (q : Int) (w : World) (h : CurAt w g hi (p :: td) q) (hq : 0 ≤ q ∧ q ≤ 1000000) (hT : TabZ w) :
    Calls Tryd.prog 9 #[.pointer (some ⟨g, 0, none⟩)] w fun e w' => ∃ (v1 v2 : Value) (mn mx : Int), e = .returned (.tuple #[.agg #[v1, .int .i64 q, .int .i64 (encPj p).length, .int .i64 mn, .int .i64 mx], v2, .bool true]) ∧ Kd.R k65 65 w' w.heap.size (fun _ => True) v1 p.f0 ∧ Kd.R k54 54 w' w.heap.size (fun _ => True) v2 p.f1 ∧ CurAt w' g hi td (q + (encPj p).length) ∧ But g w.heap.size w w' := by
  obtain ⟨h1, h2, A, c, h3, h4, h5, h6⟩ := h
  have hp := h1 p List.mem_cons_self
  have hl := encPj_len hp
  have hfm : (p :: td).flatMap encPj = encPj p ++ td.flatMap encPj := List.flatMap_cons ..
  have hch := chunkB_part p.f0 p.f1 (td.flatMap encPj) hp.1 hp.2.1 hp.2.2.1 hp.2.2.2.1 hp.2.2.2.2
  have hseg := encPj_seg hp (td.flatMap encPj)
  have hok : okB ((p :: td).flatMap encPj) = true := encPs_okB h1
  have hdr : ((p :: td).flatMap encPj).drop (encPj p).length = td.flatMap encPj := by rw [hfm, List.drop_left]
  have hll : (encPj p).length ≤ ((p :: td).flatMap encPj).length := by rw [hfm, List.length_append]; omega
  rw [← hfm] at hseg
  rw [show encPart (encLb p.f0) p.f1 ++ td.flatMap encPj = (p :: td).flatMap encPj from hfm.symm] at hch
  refine (next.okF g A c _ ((p :: td).flatMap encPj) q w h3 rfl (Kd.F_now h4) h5 hok (by omega) h2 (.inr hseg) hT ⟨hq.1, by omega⟩ p.f0 p.f1 (encPj p).length hch ⟨hl.1, hll⟩ hp.2.2.2 h6).mono ?_
  rintro e w' ⟨v1, v2, A', c', rfl, r1, r2, hcu, _, hc', hne, hb, hmap⟩
  rw [hdr] at hcu hc'
  have hF := Kd.F_step (Kd.F_imp h4 hmap) (W1 := w') (fun k hk hlt => hb.block k hlt hk.2)
  rw [hdr] at hF
  exact ⟨v1, v2, _, _, rfl, r1, r2, ⟨fun x hx => h1 x (List.mem_cons_of_mem _ hx), by rw [hfm, List.length_append] at h2; omega, A', c', hcu, hF, hc', hne⟩, hb⟩
theorem fineL_spec {r : List S60} (hr : r.length ≤ 8) (hz : okZ r) (h10 : ∀ x ∈ r, x.f0.length ≤ 10) (h60 : ∀ x ∈ r, x.f1.length ≤ 60) :
    okZ (fineL r) ∧ (fineL r).length ≤ 8 ∧ (∀ x ∈ fineL r, x.f1.length ≤ 480) ∧ canC (fineL r) = true ∧ (∀ p ∈ partsL (fineL r), okP p) ∧ joinL (partsL (fineL r)) = fineL r := by
  have ht : tot r ≤ 480 := Nat.le_trans (tot_le h60) (Nat.mul_le_mul_right 60 hr)
  have hm : ∀ x ∈ fineL r, x ∈ joinL r ∧ canL x.f0 = true := fun x hx => by
    have := List.mem_filter.1 hx
    exact this
  have hS : SrtL (fineL r) := (SrtL_join r).sublist List.filter_sublist
  have hn : ∀ x ∈ fineL r, x.f1 ≠ [] := fun x hx => join_ne r x (hm x hx).1
  have hR : ∀ x ∈ fineL r, Rs x.f1 := fun x hx => join_Rs r x (hm x hx).1
  have h480 : ∀ x ∈ fineL r, x.f1.length ≤ 480 := fun x hx => Nat.le_trans (joinL_mem (hm x hx).1).2 ht
  have hZ : okZ (fineL r) := fun x hx => by
    obtain ⟨⟨s, hs, e⟩, h2⟩ := joinL_mem (hm x hx).1
    refine ⟨by rw [e]; exact (hz s hs).1, by rw [e]; exact (hz s hs).2.1, by have := h480 x hx; omega, fun q hq => ?_⟩
    obtain ⟨y, hy, rfl⟩ := List.mem_map.1 (hm x hx).1
    have hq : q ∈ setAll [] y.f1 := hq
    rcases setAll_mem y.f1 [] hq with h | h
    · cases h
    · obtain ⟨s', hs', hq'⟩ := groups_smp r y hy q h
      exact (hz s' hs').2.2.2 q hq'
  have hcS : ∀ x ∈ fineL r, canL x.f0 = true ∧ canS x.f1 = true := fun x hx => ⟨(hm x hx).2, canS_Rs (hR x hx) (by have := h480 x hx; omega)⟩
  refine ⟨hZ, Nat.le_trans (List.length_filter_le ..) (Nat.le_trans (joinL_len r) hr), h480, canC_fine hS hn hR (fun x hx => (hm x hx).2) (fun x hx => by have := h480 x hx; omega), partsL_ok hZ hcS, join_parts hS hn hR⟩
theorem parts_few {l : List S60} {n : Nat} (h : ∀ x ∈ l, x.f1.length ≤ 20 * n) : (partsL l).length ≤ l.length * n := by
  induction l with
  | nil => simp [partsL]
  | cons x l ih =>
    rw [show partsL (x :: l) = partsX x ++ partsL l from rfl, List.length_append, List.length_cons, Nat.succ_mul]
    have h1 := ih (fun y hy => h y (List.mem_cons_of_mem _ hy))
    have h2 := h x List.mem_cons_self
    have h3 : (partsX x).length = (x.f1.length + 19) / 20 := by simp [partsX]
    omega
def ToldP (w : World) (lo : Nat) (td : List S60) (q : Int) (v1 : Value) (q' m : Int) (v2 : Value) : Prop :=
  ∀ p, td.head? = some p → q' = q ∧ m = (encPj p).length ∧ Kd.R k65 65 w lo (fun _ => True) v1 p.f0 ∧ Kd.R k54 54 w lo (fun _ => True) v2 p.f1
theorem ToldP.below {w w1 : World} {lo : Nat} {td : List S60} {q : Int} {v1 : Value} {q' m : Int} {v2 : Value} (h : ToldP w lo td q v1 q' m v2) (hb : Below w.heap.size w w1) : ToldP w1 lo td q v1 q' m v2 := fun p hp => by
  obtain ⟨h1, h2, h3, h4⟩ := h p hp
  exact ⟨h1, h2, Kd.R_below h3 hb, Kd.R_below h4 hb⟩
theorem ToldP.step {w w1 : World} {lo : Nat} {td : List S60} {q : Int} {v1 : Value} {q' m : Int} {v2 : Value} (h : ToldP w lo td q v1 q' m v2) (hb : ∀ k, lo ≤ k → k < w.heap.size → w1.heap[k]? = w.heap[k]?) : ToldP w1 lo td q v1 q' m v2 := fun p hp => by
  obtain ⟨h1, h2, h3, h4⟩ := h p hp
  exact ⟨h1, h2, Kd.R_mono (Kd.R_step (Kd.R_bound h3) (fun k hk hlt => hb k hk.2.1 hlt)) (fun _ _ => trivial), Kd.R_mono (Kd.R_step (Kd.R_bound h4) (fun k hk hlt => hb k hk.2.1 hlt)) (fun _ _ => trivial)⟩
def set5 (w : World) (b : Nat) (v0 v1 v2 v3 v4 : Value) : World := ((((w.setCell ⟨b, 0, none⟩ v0).setCell ⟨b, 1, none⟩ v1).setCell ⟨b, 2, none⟩ v2).setCell ⟨b, 3, none⟩ v3).setCell ⟨b, 4, none⟩ v4
theorem set5_at {w : World} {b t : Nat} {o0 o1 o2 o3 o4 : Value} (h : w.heap[b]? = some (.cells #[o0, o1, o2, o3, o4] t (0, 0))) (v0 v1 v2 v3 v4 : Value) : (set5 w b v0 v1 v2 v3 v4).heap[b]? = some (.cells #[v0, v1, v2, v3, v4] t (0, 0)) :=
  blk_put (blk_put (blk_put (blk_put (blk_put h 0 _ rfl) 1 _ rfl) 2 _ rfl) 3 _ rfl) 4 _ rfl
theorem set5_far (w : World) (b : Nat) (v0 v1 v2 v3 v4 : Value) (k : Nat) (h : k ≠ b) : (set5 w b v0 v1 v2 v3 v4).heap[k]? = w.heap[k]? := by
  unfold set5
  rw [Below.heap_setCell _ ⟨b, 4, none⟩ _ k h, Below.heap_setCell _ ⟨b, 3, none⟩ _ k h, Below.heap_setCell _ ⟨b, 2, none⟩ _ k h, Below.heap_setCell _ ⟨b, 1, none⟩ _ k h, Below.heap_setCell _ ⟨b, 0, none⟩ _ k h]
theorem set5_but {g B b : Nat} {w w1 : World} (h : But g B w w1) (hb : B ≤ b) (v0 v1 v2 v3 v4 : Value) : But g B w (set5 w1 b v0 v1 v2 v3 v4) :=
  But.up (But.up (But.up (But.up (But.up h hb _) hb _) hb _) hb _) hb _
theorem nextA.calls (g hi : Nat) (td : List S60) (q : Int) (w : World) (h : CurAt w g hi td q) (hq : 0 ≤ q ∧ q ≤ 1000000) (hT : TabZ w) :
    Calls Tryd.prog 9 #[.pointer (some ⟨g, 0, none⟩)] w fun e w' => ∃ (A1 A2 : Option Addr) (n1 c1 n2 c2 : Nat) (q' m mn mx : Int), e = .returned (.tuple #[.agg #[.slice A1 n1 c1, .int .i64 q', .int .i64 m, .int .i64 mn, .int .i64 mx], .slice A2 n2 c2, .bool (!td.isEmpty)]) ∧ ToldP w' w.heap.size td q (.slice A1 n1 c1) q' m (.slice A2 n2 c2) ∧ CurAt w' g hi td.tail (q + ((td.take 1).flatMap encPj).length) ∧ But g w.heap.size w w' := by
  cases td with
  | nil =>
    refine (nextP_end.calls g hi q w h).mono ?_
    rintro e w' ⟨he, hc, hb⟩
    exact ⟨none, none, 0, 0, 0, 0, 0, 0, 0, 0, he, (fun p hp => by cases hp), by simpa using hc, But.of_below hb⟩
  | cons p td =>
    refine (nextP.calls g hi p td q w h hq hT).mono ?_
    rintro e w' ⟨v1, v2, mn, mx, rfl, r1, r2, hc, hb⟩
    obtain ⟨A1, c1, rfl⟩ := Kd.R_slice r1
    obtain ⟨A2, c2, rfl⟩ := Kd.R_slice r2
    refine ⟨A1, A2, _, c1, _, c2, _, _, mn, mx, rfl, fun p' hp => ?_, by simpa using hc, hb⟩
    injection hp with hp
    subst hp
    exact ⟨rfl, rfl, r1, r2⟩
end Go.Proofs.YtbgmnmjokdfmlaaDoor.PA
namespace Go.Proofs.YtbgmnmjokdfmlaaDoor.G
open Go.ChangeShapes Go.WideShapes Go.Deep Go.RowKit Go.Proofs.YtbgmnmjokdfmlaaDoor.PA Go.Proofs.YtbgmnmjokdfmlaaDoorW.PrintWords
section
variable {H : Type} {enc : TypeId × Value → H} {P : Program} {w : World} {base : Nat} {spare : Nat → Bool} {held : Bool}
theorem open_slice_fields {t e : TypeId} {fs : Array Field} {fuel : Nat} {cs : List Value} {x : DataW H × List MemPlace} (ht : P.underlying t = some (.slice e)) (he : P.underlying e = some (.struct fs))
    (hone : oneCellFields P fs = true) (hC : P.cellsOf e = fs.size) (h : DataW.trod enc P w base spare held fuel t cs = some x) :
    (cs = [.slice none 0 0] ∧ x = (.nil, [])) ∨
    ∃ (a : Addr) (len cap m : Nat) (D : Nat → DataW H) (Pl : Nat → List MemPlace), cs = [.slice (some a) len cap] ∧ base ≤ a.block ∧ len ≤ cap ∧ cap ≤ maxLen ∧ m = (if spare a.block then cap else len) ∧
      x = (.slice ((List.range len).map D) ((List.range (m - len)).map fun j => D (len + j)), MemPlace.row a (m * fs.size) ++ (List.range m).flatMap Pl) ∧
      ∀ i, i < m → ∃ (ys : List (DataW H × List MemPlace)) (n : Nat), D i = .agg (ys.map (·.1)) ∧ Pl i = ys.flatMap (·.2) ∧ ys.length = fs.size ∧
        ∀ (j : Nat) (f : Field), fs[j]? = some f → ∃ (v : Value) (y : DataW H × List MemPlace), w.cell? (a.add (i * fs.size + j)) = some v ∧ ys[j]? = some y ∧ DataW.trod enc P w base spare held n f.type [v] = some y := by
  rcases open_slice ht h with h0 | ⟨a, len, cap, m, n, D, Pl, hcs, hb, hl, hm, hmm, hx, hi⟩
  · exact .inl h0
  · refine .inr ⟨a, len, cap, m, D, Pl, hcs, hb, hl, hm, hmm, by rw [hC] at hx; exact hx, fun i him => ?_⟩
    obtain ⟨cs', hc, ht'⟩ := hi i him
    rw [hC] at hc
    obtain ⟨ys, n', hn', hy, hlen, hyl, hf⟩ := DataW.trod_struct he ht'
    obtain ⟨_, hcl, hat⟩ := World.cells?_some hc
    simp only [Prod.mk.injEq] at hy
    refine ⟨ys, n', hy.1, hy.2, hyl, fun j f hj => ?_⟩
    obtain ⟨ho, hk⟩ := hone_of hone j f hj
    have hjl : j < fs.size := (Array.getElem?_eq_some_iff.1 hj).1
    have hcell := hat j hjl
    have hv : cs'[j]? = some (cs'[j]'(by omega)) := List.getElem?_eq_getElem (by omega)
    have h1 := hf j f hj
    rw [ho, hk] at h1
    have hone' : (cs'.drop j).take 1 = [cs'[j]'(by omega)] := by
      rw [List.drop_eq_getElem_cons (by omega)]
      rfl
    rw [hone'] at h1
    have hys : ys[j]? = some (ys[j]'(by omega)) := List.getElem?_eq_getElem (by omega)
    refine ⟨_, _, ?_, hys, h1.trans hys⟩
    rw [← Go.Deep.add_add, hcell, hv]
end
section
variable {H : Type} {enc : TypeId × Value → H} {w : World}
theorem choose_list {α : Type} (Q : Nat → α → Prop) : ∀ n, (∀ i, i < n → ∃ x, Q i x) → ∃ l : List α, l.length = n ∧ ∀ i x, l[i]? = some x → Q i x
  | 0, _ => ⟨[], rfl, fun i x h => by simp at h⟩
  | n + 1, h => by
    obtain ⟨l, hl, hq⟩ := choose_list Q n (fun i hi => h i (by omega))
    obtain ⟨x, hx⟩ := h n (by omega)
    refine ⟨l ++ [x], by simp [hl], fun i y hy => ?_⟩
    rcases Nat.lt_trichotomy i n with hi | hi | hi
    · rw [List.getElem?_append_left (by omega)] at hy
      exact hq i y hy
    · subst hi
      rw [List.getElem?_append_right (by omega), hl] at hy
      simp at hy
      exact hy ▸ hx
    · rw [List.getElem?_eq_none (by simp; omega)] at hy
      cases hy
theorem open_rows30 {v : Value} {d : DataW H} {p : List MemPlace} (hv : ∃ a len cap, v = .slice a len cap) (h : DataW.Trod enc Tryd.prog w 0 (fun _ => true) true 30 v d p) :
    ∃ (A : Option Addr) (c : Nat) (l : List S54), v = .slice A l.length c ∧ k54.C w A l.length l ∧ l.length ≤ c ∧ ∀ x ∈ l, okS x := by
  obtain ⟨a, len, cap, rfl⟩ := hv
  obtain ⟨fuel, hf⟩ := h
  rcases open_slice_fields Tryd.underlying30 Tryd.underlying54 (by kernel_rfl) (by kernel_rfl) hf with ⟨hcs, _⟩ | ⟨x, l, c, m, D, Pl, hcs, _, hl, hm, hmm, _, hi⟩
  · simp [Value.cells] at hcs
    obtain ⟨rfl, rfl, rfl⟩ := hcs
    exact ⟨none, 0, [], rfl, ⟨rfl, by simp, fun h => by simp at h⟩, Nat.le_refl _, fun x hx => by cases hx⟩
  · simp [Value.cells] at hcs
    obtain ⟨rfl, rfl, rfl⟩ := hcs
    simp only [if_true] at hmm
    subst hmm
    obtain ⟨xs, hxl, hxs⟩ := choose_list (fun i (s : S54) => okS s ∧ ∃ cs, cs.length = 2 ∧ k54.K w s cs ∧ ∀ j u, cs[j]? = some u → w.cell? (x.add (i * 2 + j)) = some u) len (fun i hil => by
      obtain ⟨ys, n, _, _, _, hfld⟩ := hi i (by omega)
      obtain ⟨v0, y0, c0, _, t0⟩ := hfld 0 _ rfl
      obtain ⟨v1, y1, c1, _, t1⟩ := hfld 1 _ rfl
      obtain ⟨a0, hc0, _, w0⟩ := DataW.trod_int Tryd.underlying3 t0
      obtain rfl : v0 = .int .i64 a0 := by simpa using hc0
      obtain ⟨a1, hc1, _, w1⟩ := DataW.trod_int Tryd.underlying52 t1
      obtain rfl : v1 = .int .u64 a1 := by simpa using hc1
      refine ⟨⟨a0, a1⟩, ⟨i64_bd w0, u64_bd w1⟩, _, rfl, k54_mk w ⟨a0, a1⟩, fun j u hj => ?_⟩
      match j, hj with
      | 0, hj => injection hj with hj; subst hj; exact c0
      | 1, hj => injection hj with hj; subst hj; exact c1
      | n + 2, hj => simp at hj)
    have hmx : maxLen ≤ 9223372036854775807 := by decide
    refine ⟨some x, m, xs, by rw [hxl], ⟨rfl, by rw [hxl]; omega, fun _ => ⟨x, rfl, fun j p hj => ?_⟩⟩, by omega, fun s hs => ?_⟩
    · obtain ⟨_, cs, h1, h2, h3⟩ := hxs j p hj
      exact ⟨cs, h1, h2, h3⟩
    · obtain ⟨j, hj⟩ := List.getElem?_of_mem hs
      exact (hxs j s hj).1
end
end Go.Proofs.YtbgmnmjokdfmlaaDoor.G
namespace Go.Proofs.YtbgmnmjokdfmlaaDoor.G
open Go.ChangeShapes Go.WideShapes Go.Deep Go.RowKit Go.Proofs.YtbgmnmjokdfmlaaDoor.PA Go.Proofs.YtbgmnmjokdfmlaaDoorW.PrintWords
theorem mem_weightsAll {H : Type} {P : Program} {e : TypeId} {n : Nat} {x : DataW H} : ∀ {l : List (DataW H)}, x ∈ l → n ∈ DataW.weights P e x → n ∈ DataW.weightsAll P e l
  | y :: r, hx, hn => by
    rw [DataW.weightsAll, List.mem_append]
    rcases List.mem_cons.1 hx with h | h
    · subst h; exact .inl hn
    · exact .inr (mem_weightsAll h hn)
section
variable {H : Type} {enc : TypeId × Value → H} {w : World}
theorem okLs_nil : okLs ([] : List S65) := fun x h => by cases h
theorem ser_labels {n : Nat} {v : Value} {y : DataW H × List MemPlace} (hsz : ∀ m ∈ DataW.weights Tryd.prog 27 y.1, m ≤ reachBytes) (h : DataW.trod enc Tryd.prog w 0 (fun _ => true) true n 27 [v] = some y) :
    ∃ (A : Option Addr) (c : Nat) (l : List S65), v = .slice A l.length c ∧ l.length ≤ c ∧ k65.C w A l.length l ∧ okLs l := by
  rcases open_slice_fields Tryd.underlying27 Tryd.underlying65 (by kernel_rfl) (by kernel_rfl) h with ⟨hcs, _⟩ | ⟨x, l, c, m, D, Pl, hcs, _, hl, hm, hmm, hdx, hi⟩
  · simp only [List.cons.injEq, and_true] at hcs
    exact ⟨none, 0, [], hcs, Nat.le_refl _, ⟨rfl, by simp, fun h => by simp at h⟩, okLs_nil⟩
  · simp only [List.cons.injEq, and_true] at hcs
    subst hcs
    simp only [if_true] at hmm
    subst hmm
    have hd : y.1 = .slice ((List.range l).map D) ((List.range (m - l)).map fun j => D (l + j)) := by rw [hdx]
    obtain ⟨xs, hxl, hxs⟩ := choose_list (fun i (s : S65) => (s.f0.size ≤ 140737488355328 ∧ s.f1.size ≤ 140737488355328) ∧ ∃ cs, cs.length = 2 ∧ k65.K w s cs ∧ ∀ j u, cs[j]? = some u → w.cell? (x.add (i * 2 + j)) = some u) l (fun i hil => by
      obtain ⟨ys, n, hDi, _, _, hfld⟩ := hi i (by omega)
      obtain ⟨v0, y0, c0, hy0, t0⟩ := hfld 0 _ rfl
      obtain ⟨v1, y1, c1, hy1, t1⟩ := hfld 1 _ rfl
      obtain ⟨s0, e0, d0, _⟩ := DataW.trod_string Tryd.underlying9 t0
      obtain ⟨s1, e1, d1, _⟩ := DataW.trod_string Tryd.underlying9 t1
      obtain rfl : v0 = .string s0 := by simpa using e0
      obtain rfl : v1 = .string s1 := by simpa using e1
      have hw : (DataW.weightsEach Tryd.prog [9, 9] (ys.map (·.1))).all (· ≤ reachBytes) = true := by
        rw [List.all_eq_true]
        intro k hk
        have := hsz k (by
          rw [hd, DataW.weights, Tryd.underlying27]
          exact List.mem_cons_of_mem _ (List.mem_append_left _ (mem_weightsAll (List.mem_map.2 ⟨i, List.mem_range.2 hil, rfl⟩) (by rw [hDi, DataW.weights, Tryd.underlying65]; exact hk))))
        exact decide_eq_true this
      have z0 := sized_string (j := 0) hw rfl (bytes := s0.data.toList) (by rw [List.getElem?_map, hy0, d0]; rfl)
      have z1 := sized_string (j := 1) hw rfl (bytes := s1.data.toList) (by rw [List.getElem?_map, hy1, d1]; rfl)
      rw [Array.length_toList] at z0 z1
      have hrb : reachBytes ≤ 140737488355328 := by decide
      refine ⟨⟨s0, s1⟩, ⟨Nat.le_trans z0 hrb, Nat.le_trans z1 hrb⟩, _, rfl, k65_mk w ⟨s0, s1⟩, fun j u hj => ?_⟩
      match j, hj with
      | 0, hj => injection hj with hj; subst hj; exact c0
      | 1, hj => injection hj with hj; subst hj; exact c1
      | n + 2, hj => simp at hj)
    have hmx : maxLen ≤ 9223372036854775807 := by decide
    refine ⟨some x, m, xs, by rw [hxl], by omega, ⟨rfl, by rw [hxl]; omega, fun _ => ⟨x, rfl, fun j p hj => ?_⟩⟩, fun s hs => ?_⟩
    · obtain ⟨_, cs, h1, h2, h3⟩ := hxs j p hj
      exact ⟨cs, h1, h2, h3⟩
    · obtain ⟨j, hj⟩ := List.getElem?_of_mem hs
      exact (hxs j s hj).1
theorem ser_samples {n : Nat} {v : Value} {y : DataW H × List MemPlace} (h : DataW.trod enc Tryd.prog w 0 (fun _ => true) true n 30 [v] = some y) :
    ∃ (A : Option Addr) (c : Nat) (l : List S54), v = .slice A l.length c ∧ l.length ≤ c ∧ k54.C w A l.length l ∧ ∀ x ∈ l, okS x := by
  have hv : ∃ a len cap, v = .slice a len cap := by
    rcases open_slice_fields Tryd.underlying30 Tryd.underlying54 (by kernel_rfl) (by kernel_rfl) h with ⟨hcs, _⟩ | ⟨x, l, c, m, D, Pl, hcs, _⟩
    · simp only [List.cons.injEq, and_true] at hcs
      exact ⟨_, _, _, hcs⟩
    · simp only [List.cons.injEq, and_true] at hcs
      exact ⟨_, _, _, hcs⟩
  have hT : DataW.Trod enc Tryd.prog w 0 (fun _ => true) true 30 v y.1 y.2 := by
    obtain ⟨a, len, cap, rfl⟩ := hv
    exact ⟨n, h⟩
  obtain ⟨A, c, l, h1, h2, h3, h4⟩ := open_rows30 hv hT
  exact ⟨A, c, l, h1, h3, h2, h4⟩
theorem open_rowsS38 {v : Value} {d : DataW H} {p : List MemPlace} (hv : ∃ a len cap, v = .slice a len cap) {ts : List TypeId} {ds : List (DataW H)} (hsz : (DataW.weightsEach Tryd.prog (38 :: ts) (d :: ds)).all (· ≤ reachBytes) = true) (h : DataW.Trod enc Tryd.prog w 0 (fun _ => true) true 38 v d p) :
    ∃ (A : Option Addr) (c : Nat) (l : List S60), v = .slice A l.length c ∧ k60.C w A l.length l ∧ l.length ≤ c ∧ okW l ∧ l.length * 48 ≤ 140737488355328 := by
  obtain ⟨a, len, cap, rfl⟩ := hv
  obtain ⟨fuel, hf⟩ := h
  rcases open_slice_fields Tryd.underlying38 Tryd.underlying60 (by kernel_rfl) (by kernel_rfl) hf with ⟨hcs, _⟩ | ⟨x, l, c, m, D, Pl, hcs, _, hl, hm, hmm, hdx, hi⟩
  · simp [Value.cells] at hcs
    obtain ⟨rfl, rfl, rfl⟩ := hcs
    exact ⟨none, 0, [], rfl, ⟨rfl, by simp, fun h => by simp at h⟩, Nat.le_refl _, (fun x hx => by cases hx), by simp⟩
  · simp [Value.cells] at hcs
    obtain ⟨rfl, rfl, rfl⟩ := hcs
    simp only [if_true] at hmm
    subst hmm
    have hd : d = .slice ((List.range len).map D) ((List.range (m - len)).map fun j => D (len + j)) := (Prod.mk.inj hdx).1
    have hall : ∀ k ∈ DataW.weights Tryd.prog 38 d, k ≤ reachBytes := fun k hk => by
      have := List.all_eq_true.1 hsz k (by rw [DataW.weightsEach, List.mem_append]; exact .inl hk)
      exact of_decide_eq_true this
    have h48 := hall ((((List.range len).map D).length + ((List.range (m - len)).map fun j => D (len + j)).length) * Tryd.prog.bytesOf 60) (by rw [hd, DataW.weights, Tryd.underlying38]; exact List.mem_cons_self ..)
    obtain ⟨xs, hxl, hxs⟩ := choose_list (fun i (s : S60) => (okLs s.f0 ∧ ∀ q ∈ s.f1, okS q) ∧ ∃ cs, cs.length = 2 ∧ k60.K w s cs ∧ ∀ j u, cs[j]? = some u → w.cell? (x.add (i * 2 + j)) = some u) len (fun i hil => by
      obtain ⟨ys, n, hDi, _, _, hfld⟩ := hi i (by omega)
      obtain ⟨v0, y0, c0, hy0, t0⟩ := hfld 0 _ rfl
      obtain ⟨v1, y1, c1, hy1, t1⟩ := hfld 1 _ rfl
      obtain ⟨A0, q0, l0, rfl, hq0, hC0, hw0⟩ := ser_labels (fun k hk => hall k (by
        rw [hd, DataW.weights, Tryd.underlying38]
        refine List.mem_cons_of_mem _ (List.mem_append_left _ (mem_weightsAll (List.mem_map.2 ⟨i, List.mem_range.2 hil, rfl⟩) ?_))
        rw [hDi, DataW.weights, Tryd.underlying60]
        exact DataW.weights_mem_each (j := 0) (ts := [27, 30]) rfl (by rw [List.getElem?_map, hy0]; rfl) k hk)) t0
      obtain ⟨A1, q1, l1, rfl, hq1, hC1, hw1⟩ := ser_samples t1
      refine ⟨⟨l0, l1⟩, ⟨hw0, hw1⟩, _, rfl, k60_mk w ⟨l0, l1⟩ hq0 hC0 hq1 hC1, fun j u hj => ?_⟩
      match j, hj with
      | 0, hj => injection hj with hj; subst hj; exact c0
      | 1, hj => injection hj with hj; subst hj; exact c1
      | n + 2, hj => simp at hj)
    have hmx : maxLen ≤ 9223372036854775807 := by decide
    have hbo : Tryd.prog.bytesOf 60 = 48 := by kernel_rfl
    have hrb : reachBytes ≤ 140737488355328 := by decide
    refine ⟨some x, m, xs, by rw [hxl], ⟨rfl, by rw [hxl]; omega, fun _ => ⟨x, rfl, fun j p hj => ?_⟩⟩, by omega, fun s hs => ?_, ?_⟩
    · obtain ⟨_, cs, h1, h2, h3⟩ := hxs j p hj
      exact ⟨cs, h1, h2, h3⟩
    · obtain ⟨j, hj⟩ := List.getElem?_of_mem hs
      exact (hxs j s hj).1
    · rw [hbo] at h48
      simp only [List.length_map, List.length_range] at h48
      rw [hxl]
      omega
end
end Go.Proofs.YtbgmnmjokdfmlaaDoor.G

/- Lemmas and contracts: Numbers and their bytes: plain facts, and the words that the contracts of this seat share. · Small lemmas for the texts of PlanLive and PlanAgain (as in PMerge and GPlanM, which these texts need not bear). · Live's closure: whether a block is a parent of another one that counts. · slices.Clone of whole numbers. · SortStableFunc over few footers, by rank: the library's own walk of the insertion sort, laid here. · An argument that is a slice of footers, opened to the rows that the walk's contracts ask. The theorem open_slice_fields is copied from the guide's page on structs, which offers it for copying. · A row of footers of one's own, as the sort takes it and leaves it. · The insertion sort, plain: one by one, each behind all that are not above it. · plan.Live up to its sort: the blocks that count, each with a list of parents of its own. · The reference's Live, plain: it is the list that the code's one is. -/
import Derived.Test.YthjfffgddegmoaaProg
import Derived.Below
import Derived.Deep.Draws
import Derived.Deep.AppendLies
import Derived.Maps.AppendAt
import Derived.OwnWalk
import Derived.Laws.BytesArg
import Derived.Laws.MakeOwn
import Derived.Laws.OwnMore
import Derived.Deep.OwnRows
import Derived.Tactics
import Derived.Lib.ConvBytes
import Derived.Laws.Slices
import Derived.WalkKit
import Derived.KernelRfl
import Derived.RowKit3
import Derived.Deep.LoopGhost
import Derived.Deep.QuietTactic
import Derived.BigQuiet
import Derived.WideLaws
import Derived.Deep.DeepCutAuto
import Derived.Deep.CutBlock
import Derived.Deep.RegionHeld3
import Derived.Laws.Rows
import Derived.Lib.AppendStr
import Derived.ArgAppend
import Derived.Laws.IdiomCopy
import Derived.Laws.BitsLemmas
import Derived.Laws.BitsAllLaws
import Derived.RowKit
import Derived.Lib.Hide
import Derived.Test.YthjfffgddegmoaaWWords
import Derived.Test.YthjfffgddegmoaaWLast
import Derived.Test.YthjfffgddegmoaaWMore
import Derived.Test.YthjfffgddegmoaaT1
import Derived.Deep.DeepMust
import Derived.Lib.SliceRun
import Derived.Shelf.SlSortCmp.InsertionK
import Derived.Shelf.Lay
import Derived.Ground.SlsfProg
import Derived.Deep.Slices
import Derived.Deep.Fields
import Derived.ChangeSame
import Derived.OpenShut
import Derived.Test.YthjfffgddegmoaaT2
namespace Go.Proofs.Ythjfffgddegmoaa.G
open Go.RowKit Go.Proofs.YthjfffgddegmoaaW.PrintWords Go.Proofs.YthjfffgddegmoaaW.PrintLast Go.Proofs.YthjfffgddegmoaaW.PrintMore
set_option linter.unusedVariables false
set_option linter.unusedSimpArgs false

/-- the lowest i bytes of a number, the highest first -/
def beL (N : Nat) : Nat → List Int
  | 0 => []
  | i + 1 => ((N / 256 ^ i % 256 : Nat) : Int) :: beL N i
theorem beL_length (N i : Nat) : (beL N i).length = i := by induction i with
  | zero => rfl
  | succ i ih => simp [beL, ih]
theorem beL_byte (N i : Nat) : ∀ x ∈ beL N i, 0 ≤ x ∧ x < 256 := by induction i with
  | zero => intro x hx; cases hx
  | succ i ih =>
    intro x hx
    rcases List.mem_cons.1 hx with rfl | hx
    · have : N / 256 ^ i % 256 < 256 := Nat.mod_lt _ (by decide)
      omega
    · exact ih x hx
/-- what bytes say, behind a number -/
def beV (V : Nat) (l : List Int) : Nat := l.foldl (fun v x => v * 256 + x.toNat) V
theorem beV_cons (V : Nat) (x : Int) (l : List Int) : beV V (x :: l) = beV (V * 256 + x.toNat) l := rfl
theorem beV_beL (N i : Nat) : ∀ V, beV V (beL N i) = V * 256 ^ i + N % 256 ^ i := by
  induction i with
  | zero => intro V; simp [beV, beL, Nat.mod_one]
  | succ i ih =>
    intro V
    rw [beL, beV_cons, ih, Int.toNat_natCast, Nat.pow_succ, Nat.mod_mul, Nat.add_mul, Nat.mul_assoc, Nat.mul_comm 256 (256 ^ i), Nat.mul_comm (N / 256 ^ i % 256)]
    omega
theorem pow_pos' (i : Nat) : 0 < 256 ^ i := Nat.pow_pos (by decide)
theorem beV_lt (l : List Int) (hl : ∀ x ∈ l, 0 ≤ x ∧ x < 256) : ∀ V m, V < 256 ^ m → beV V l < 256 ^ (m + l.length) := by
  induction l with
  | nil => intro V m h; simpa [beV] using h
  | cons x l ih =>
    intro V m h
    have hx := hl x (List.mem_cons_self ..)
    have := ih (fun y hy => hl y (List.mem_cons_of_mem _ hy)) (V * 256 + x.toNat) (m + 1) (by rw [Nat.pow_succ]; omega)
    rw [beV_cons, List.length_cons]
    rwa [show m + (l.length + 1) = m + 1 + l.length from by omega]
theorem set_at (d : Nat) (L : List Int) (v : Int) : (List.replicate (d + 1) (0 : Int) ++ L).set d v = List.replicate d 0 ++ (v :: L) := by
  rw [List.replicate_succ', List.append_assoc, List.set_append_right _ _ (by simp)]
  simp
theorem w64 {x : Int} (h : -9223372036854775808 ≤ x) (h' : x ≤ 9223372036854775807) : wrap64 x = x := by unfold wrap64; omega
theorem or8 (V : Nat) (x : Int) (hV : V < 256 ^ 7) (h0 : 0 ≤ x) (h1 : x < 256) : Go.bits .or .u64 (IntKind.u64.wrap ((V : Int) * 256)) (IntKind.u64.wrap x) = ((V * 256 + x.toNat : Nat) : Int) := by
  have e1 : IntKind.u64.wrap ((V : Int) * 256) = ((V * 256 : Nat) : Int) := by
    simp [IntKind.wrap, IntKind.bits, IntKind.signed]; omega
  have e2 : IntKind.u64.wrap x = (x.toNat : Int) := by
    simp [IntKind.wrap, IntKind.bits, IntKind.signed]; omega
  rw [e1, e2, u64_or_nat _ _ (by omega) (by omega), nat_join 8 (V * 256) x.toNat (by simp) (by omega)]
theorem rd_drop (l : List Int) (i : Nat) (h : i < l.length) : l.drop i = rd l (i : Int) :: l.drop (i + 1) := by
  rw [List.drop_eq_getElem_cons h]
  simp [rd, List.getD_eq_getElem?_getD, List.getElem?_eq_getElem h]
theorem rd_mem (l : List Int) (i : Nat) (h : i < l.length) : rd l (i : Int) ∈ l := by
  simp [rd, List.getD_eq_getElem?_getD, List.getElem?_eq_getElem h]

/-- how many bytes a width is -/
def wid (a : Int) : Nat := min (max a 0).toNat 8
theorem wid_le (a : Int) : wid a ≤ 8 := by unfold wid; omega
/-- bytes -/
def okB (l : List Int) : Bool := l.all fun x => decide (0 ≤ x ∧ x < 256)
theorem okB_iff {l : List Int} : okB l = true ↔ ∀ x ∈ l, 0 ≤ x ∧ x < 256 := by simp [okB]
theorem okB_wf {l : List Int} (h : ∀ x ∈ l, (Lit.int .u8 x).wf = true) : okB l = true := okB_iff.2 fun x hx => by
  have := h x hx
  simp [Lit.wf, IntKind.min, IntKind.max, IntKind.signed, IntKind.bits] at this
  omega
theorem u64_bd {n : Int} (h : (Lit.int .u64 n).wf = true) : 0 ≤ n ∧ n < 18446744073709551616 := by
  have : 0 ≤ n ∧ n ≤ 18446744073709551615 := by simpa [Lit.wf, IntKind.min, IntKind.max, IntKind.signed, IntKind.bits] using h
  omega
theorem u32_bd {n : Int} (h : (Lit.int .u32 n).wf = true) : 0 ≤ n ∧ n < 4294967296 := by
  have : 0 ≤ n ∧ n ≤ 4294967295 := by simpa [Lit.wf, IntKind.min, IntKind.max, IntKind.signed, IntKind.bits] using h
  omega
theorem i64_bd {n : Int} (h : (Lit.int .i64 n).wf = true) : -9223372036854775808 ≤ n ∧ n ≤ 9223372036854775807 := by
  simpa [Lit.wf, IntKind.min, IntKind.max, IntKind.signed, IntKind.bits] using h
theorem okB_beL (N i : Nat) : okB (beL N i) = true := okB_iff.2 (beL_byte N i)
/-- a row that was made: where it begins -/
theorem made_form {α : Type} {d : Kd α} {e base B : Nat} {ok : Nat → Prop} {w : World} {v : Value} {xs : List α} (h : d.R e w base ok v xs) (hb : ∃ b, v.ownBlock = some b ∧ B ≤ b) :
    ∃ g cap, v = .slice (some ⟨g, 0, none⟩) xs.length cap ∧ B ≤ g := by
  obtain ⟨inner, ho⟩ := Kd.R_own h
  obtain ⟨b, hb, hB⟩ := hb
  rcases ho.2 with ⟨rfl, _⟩ | ⟨g, cap, cur, rfl, _⟩
  · simp [Value.ownBlock] at hb
  · have : g = b := by simpa [Value.ownBlock] using hb
    exact ⟨g, cap, rfl, by omega⟩
theorem ret_bool {a b : Bool} (h : a = b) : Ending.returned (.bool a) = .returned (.bool b) := by rw [h]
/-- a new block reads as the row that was laid -/
theorem C_lit {α : Type} (enc : α → Value) (d : α) {h1 : ∀ x, (enc x).oneCell' = true} (w : World) (e : Nat) (cs : Array Value) (fr : Nat × Nat) (xs : List α) (hcs : cs.toList = xs.map enc) (hl : xs.length ≤ 9223372036854775807) :
    (Kd.scalar enc h1).C (w.alloc (.cells cs e fr)) (some ⟨w.heap.size, 0, none⟩) xs.length xs := by
  refine Kd.C_of_reads (d := d) ⟨rfl, hl, fun _ => ⟨_, rfl, fun j hj => ?_⟩⟩
  rw [add_plain]
  refine (cell_of_row _ _ j cs e fr (heap_alloc_new w _)).trans ?_
  rw [← Array.getElem?_toList, hcs, List.getElem?_map, List.getElem?_eq_getElem hj]
  simp [List.getD_eq_getElem?_getD, List.getElem?_eq_getElem hj]
theorem C_lit_at {α : Type} (enc : α → Value) (d : α) {h1 : ∀ x, (enc x).oneCell' = true} (w : World) (e : Nat) (cs : Array Value) (fr : Nat × Nat) (xs : List α) (g n : Nat) (hcs : cs.toList = xs.map enc) (hl : xs.length ≤ 9223372036854775807) (hg : g = w.heap.size) (hn : xs.length = n) :
    (Kd.scalar enc h1).C (w.alloc (.cells cs e fr)) (some ⟨g, 0, none⟩) n xs := by
  subst hg hn
  exact C_lit enc d w e cs fr xs hcs hl
/-- a row of no element, made by a literal -/
theorem R_empty {α : Type} (d : Kd α) (e base : Nat) (w : World) (ok : Nat → Prop) (hb : base ≤ w.heap.size) (hok : ok w.heap.size) :
    d.R e (w.alloc (.cells #[] e)) base ok (.slice (some ⟨w.heap.size, 0, none⟩) 0 0) [] := by
  refine ⟨fun k hk => ?_, [], ⟨by simp, .inr ⟨w.heap.size, 0, #[], rfl, hb, heap_alloc_new w _, Nat.le_refl _, by simp [maxLen], by simp, by simp⟩⟩, Reps.none _ _⟩
  simp only [Value.ownBlock, Option.some.injEq] at hk
  rw [← hk]
  exact hok
theorem infoU8 : (Try.prog.info? 5).map (fun i => (i.zero, i.size, i.bytes)) = some (some (.int .u8 0), 1, 1) := by kernel_rfl
end Go.Proofs.Ythjfffgddegmoaa.G
-- written by wip/gprint.py of this session (it runs the print of the guide's kit over contracts of the session)
namespace Go.Proofs.Ythjfffgddegmoaa.PA
open Go.RowKit Go.Proofs.YthjfffgddegmoaaW.PrintWords Go.Proofs.YthjfffgddegmoaaW.PrintLast Go.Proofs.YthjfffgddegmoaaW.PrintMore
attribute [local go_sem] max2_int min2_int max_two min_two max_three min_three max_four min_four   -- for this text's walks alone
set_option linter.unusedVariables false
set_option linter.unusedSimpArgs false

/-! ### plan_Floor: function 10 -/
def plan_Floor.f (a0 : Int) (a1 : Int) (a2 : Int) : Option (Int) := if a2 ≤ 0 then (some a0) else (if a1 = (-9223372036854775808) then (some a0) else (if a1 < (wrap64 ((-9223372036854775808) + a2)) then (some a0) else (some (mx a0 (wrap64 (a1 - a2))))))
set_option maxHeartbeats 8000000 in
set_option maxRecDepth 100000 in
theorem plan_Floor.calls (a0 : Int) (a1 : Int) (a2 : Int) (r : Int) (w : World) (h : plan_Floor.f a0 a1 a2 = some r) :
    Calls Try.prog 10 #[.int .i64 a0, .int .i64 a1, .int .i64 a2] w fun e w' => e = .returned (.int .i64 r) ∧ Below w.heap.size w w' := by
  have HB := Aside0.mk (Below.refl w.heap.size w)
  have H : (if a2 ≤ 0 then (some a0) else (if a1 = (-9223372036854775808) then (some a0) else (if a1 < (wrap64 ((-9223372036854775808) + a2)) then (some a0) else (some (mx a0 (wrap64 (a1 - a2))))))) = some r := h
  clear h
  by_cases c4 : a2 ≤ 0
  · rw [if_pos c4] at H
    have c4b0 : decide (a2 ≤ 0) = true := decide_eq_true c4
    clear c4
    obtain rfl := Option.some.inj H
    go_enter Try.func10, Try.ntmps10
    go_wp2
    go_ret
    exact ⟨by first | rfl | (simp [errW_none, errW_some] <;> rfl) | (simp [*, errW_none, errW_some] <;> rfl), by repeat (first | (with_reducible first | exact HB.out | apply below_alloc | apply pw_below_drewN | apply below_drew1) | exact HB.out)⟩
  · rw [if_neg c4] at H
    have c4b0 : decide (a2 ≤ 0) = false := decide_eq_false c4
    clear c4
    by_cases c5 : a1 = (-9223372036854775808)
    · rw [if_pos c5] at H
      have c5b0 : (a1 == (-9223372036854775808)) = true := beq_iff_eq.mpr c5
      have c5b1 : (a1 != (-9223372036854775808)) = false := bne_eq_false_iff_eq.mpr c5
      clear c5
      obtain rfl := Option.some.inj H
      go_enter Try.func10, Try.ntmps10
      go_wp2
      go_ret
      exact ⟨by first | rfl | (simp [errW_none, errW_some] <;> rfl) | (simp [*, errW_none, errW_some] <;> rfl), by repeat (first | (with_reducible first | exact HB.out | apply below_alloc | apply pw_below_drewN | apply below_drew1) | exact HB.out)⟩
    · rw [if_neg c5] at H
      have c5b0 : (a1 == (-9223372036854775808)) = false := beq_eq_false_iff_ne.mpr c5
      have c5b1 : (a1 != (-9223372036854775808)) = true := bne_iff_ne.mpr c5
      by_cases c6 : a1 < (wrap64 ((-9223372036854775808) + a2))
      · rw [if_pos c6] at H
        have c6b0 : decide (a1 < (wrap64 ((-9223372036854775808) + a2))) = true := decide_eq_true c6
        clear c6
        obtain rfl := Option.some.inj H
        go_enter Try.func10, Try.ntmps10
        go_wp2
        go_ret
        exact ⟨by first | rfl | (simp [errW_none, errW_some] <;> rfl) | (simp [*, errW_none, errW_some] <;> rfl), by repeat (first | (with_reducible first | exact HB.out | apply below_alloc | apply pw_below_drewN | apply below_drew1) | exact HB.out)⟩
      · rw [if_neg c6] at H
        have c6b0 : decide (a1 < (wrap64 ((-9223372036854775808) + a2))) = false := decide_eq_false c6
        clear c6
        obtain ⟨ji7, hji7⟩ : ∃ j_ : Int, (mx a0 (wrap64 (a1 - a2))) = j_ := ⟨_, rfl⟩
        replace H : (some ji7) = some r := by first | (rw [hji7] at H; exact H) | (simp only [hji7] at H ⊢; exact H)
        have hji7_ : (if a0 < (wrap64 (a1 - a2)) then (wrap64 (a1 - a2)) else a0) = ji7 := hji7
        obtain rfl := Option.some.inj H
        go_enter Try.func10, Try.ntmps10
        go_wp2
        go_ret
        exact ⟨by first | rfl | (simp [errW_none, errW_some] <;> rfl) | (simp only [← hji7]; first | rfl | (simp [errW_none, errW_some] <;> rfl)) | (simp [*, errW_none, errW_some] <;> rfl), by repeat (first | (with_reducible first | exact HB.out | apply below_alloc | apply pw_below_drewN | apply below_drew1) | exact HB.out)⟩

end Go.Proofs.Ythjfffgddegmoaa.PA
-- written by wip/gprint.py of this session (it runs the print of the guide's kit over contracts of the session)
namespace Go.Proofs.Ythjfffgddegmoaa.PA
open Go.RowKit Go.Proofs.YthjfffgddegmoaaW.PrintWords Go.Proofs.YthjfffgddegmoaaW.PrintLast Go.Proofs.YthjfffgddegmoaaW.PrintMore
attribute [local go_sem] max2_int min2_int max_two min_two max_three min_three max_four min_four   -- for this text's walks alone
set_option linter.unusedVariables false
set_option linter.unusedSimpArgs false

/-! ### dryrotlaw16_awake: function 12 -/
def dryrotlaw16_awake.f  : Option (Bool) := (plan_Floor.f 0 100 30).bind fun t101 => (some (t101 == 70))
set_option maxHeartbeats 8000000 in
set_option maxRecDepth 100000 in
theorem dryrotlaw16_awake.calls  (r : Bool) (w : World) (h : dryrotlaw16_awake.f  = some r) :
    Calls Try.prog 12 #[] w fun e w' => e = .returned (.bool r) ∧ Below w.heap.size w w' := by
  have HB := Aside0.mk (Below.refl w.heap.size w)
  have H : ((plan_Floor.f 0 100 30).bind fun t101 => (some (t101 == 70))) = some r := h
  clear h
  replace H := Option.bind_eq_some_iff.mp H
  obtain ⟨t101, A10, H⟩ := H
  replace H : (some (t101 == 70)) = some r := H
  have A1 := Aside0.mk A10
  clear A10
  obtain rfl := Option.some.inj H
  go_enter Try.func12, Try.ntmps12
  go_wp2_with (first | ((with_reducible refine gate_callee (f := 10) rfl ?_); refine goesL_ (some 1) rfl rfl Try.func10 (by kernel_rfl) rfl #[.int .i64 0, .int .i64 100, .int .i64 30] rfl (by (try simp only [List.map_toArray, List.map_cons, List.map_nil]); first | done | rfl | (simp only [List.length_drop, List.length_take]; rfl)) ?_; (with_reducible refine (plan_Floor.calls 0 100 30 t101 _ A1.out).mono ?_); rintro e w2 ⟨rfl, hb⟩; refine ⟨_, rfl, ?_⟩; have n0_ := Aside0.mk (below_step (by repeat (first | (with_reducible first | exact HB.out | apply below_alloc | apply pw_below_drewN | apply below_drew1) | exact HB.out)) hb); clear HB; have HB := n0_; clear n0_; (try clear hb); (try clear hb2); (try clear hk); (try clear hi)))
  go_ret
  exact ⟨by first | rfl | (simp [errW_none, errW_some] <;> rfl) | (simp [*, errW_none, errW_some] <;> rfl), by repeat (first | (with_reducible first | exact HB.out | apply below_alloc | apply pw_below_drewN | apply below_drew1) | exact HB.out)⟩

end Go.Proofs.Ythjfffgddegmoaa.PA
-- written by wip/gprint.py of this session (it runs the print of the guide's kit over contracts of the session)
namespace Go.Proofs.Ythjfffgddegmoaa.PA
open Go.RowKit Go.Proofs.YthjfffgddegmoaaW.PrintWords Go.Proofs.YthjfffgddegmoaaW.PrintLast Go.Proofs.YthjfffgddegmoaaW.PrintMore
attribute [local go_sem] max2_int min2_int max_two min_two max_three min_three max_four min_four   -- for this text's walks alone
set_option linter.unusedVariables false
set_option linter.unusedSimpArgs false

/-! ### dryrotlaw16_cut: function 13 -/
def dryrotlaw16_cut.f (l0 : List (S30)) : Option ((List (S30))) := if 0 ≤ (mn (l0.length : Int) 14) then (if (mn (l0.length : Int) 14) ≤ (l0.length : Int) then (some (l0.take ((mn (l0.length : Int) 14) : Int).toNat)) else (none)) else (none)
set_option maxHeartbeats 8000000 in
set_option maxRecDepth 100000 in
theorem dryrotlaw16_cut.calls (P0_ : Nat → Prop) (A0 : Option Addr) (c0 : Nat) (l0 : List (S30)) (r : List (S30)) (w : World) (hs0 : Kd.V k30 30 w w.heap.size (fun k_ => P0_ k_) (.slice A0 l0.length c0) l0) (h : dryrotlaw16_cut.f l0 = some r) :
    Calls Try.prog 13 #[.slice A0 l0.length c0] w fun e w' => ∃ v0_ : Value, e = .returned (v0_) ∧ Kd.V k30 30 w' w.heap.size (fun k_ => (P0_ k_ ∨ w.heap.size ≤ k_)) v0_ r ∧ Below w.heap.size w w' := by
  have HO0 := Aside0.mk (show Kd.V k30 30 w w.heap.size (fun k_ => (P0_ k_ ∨ w.heap.size ≤ k_)) (.slice A0 l0.length c0) l0 from Kd.V_mono hs0 (fun k_ hk => .inl hk))
  have HB := Aside0.mk (Below.refl w.heap.size w)
  have H : (if 0 ≤ (mn (l0.length : Int) 14) then (if (mn (l0.length : Int) 14) ≤ (l0.length : Int) then (some (l0.take ((mn (l0.length : Int) 14) : Int).toNat)) else (none)) else (none)) = some r := h
  clear h
  obtain ⟨ji2, hji2⟩ : ∃ j_ : Int, (mn (l0.length : Int) 14) = j_ := ⟨_, rfl⟩
  replace H : (if 0 ≤ (ji2) then (if (ji2) ≤ (l0.length : Int) then (some (l0.take ((ji2) : Int).toNat)) else (none)) else (none)) = some r := by first | (rw [hji2] at H; exact H) | (simp only [hji2] at H ⊢; exact H)
  (try (have hji2h : ji2 ≤ 14 := by (rw [← hji2]; unfold mn; (repeat' split) <;> omega)))
  (try (have hji2g : ji2 ≤ 64 := by omega))
  (try (have hji2l : 0 ≤ ji2 := by (rw [← hji2]; unfold mn; (repeat' split) <;> omega)))
  (try (have hji2m : 0 ≤ ji2 := by omega))
  have hji2_ : (if 14 < (l0.length : Int) then 14 else (l0.length : Int)) = ji2 := hji2
  by_cases c3 : 0 ≤ (ji2)
  · rw [if_pos c3] at H
    have c3b0 := eq_true c3
    have c3b1 : decide (0 ≤ (ji2)) = true := decide_eq_true c3
    clear c3
    by_cases c4 : (ji2) ≤ (l0.length : Int)
    · rw [if_pos c4] at H
      have c4b0 := eq_true c4
      have c4b1 : decide ((ji2) ≤ (l0.length : Int)) = true := decide_eq_true c4
      clear c4
      obtain ⟨y102, hy102⟩ : ∃ y_ : List (S30), y_ = (l0.take ((ji2) : Int).toNat) := ⟨_, rfl⟩
      replace H : (some y102) = some r := by first | (rw [hy102]; with_reducible exact H) | (have H2_ := (Option.bind_some _ _).symm.trans H; rw [hy102]; with_reducible exact H2_) | (have H2_ := (Option.bind_some _ _).symm.trans H; with_reducible exact H2_) | with_reducible exact H | (rw [hy102]; exact H) | exact H
      have Ny102 := Aside0.mk hy102
      clear hy102
      obtain rfl := Option.some.inj H
      have q5 : ((ji2) : Int) ≤ ((l0.length : Int) : Int) := of_decide_eq_true (by first | (with_reducible assumption) | assumption)
      obtain ⟨i05, hi05, _, hsz5, _⟩ := info_parts info30
      have hroom5 : l0.length ≤ c0 := (Kd.V_reads' HO0.out).2.1
      have hC5 : Kd.F k30 _ _ A0 l0.length l0 := (Kd.V_at (base := w.heap.size) HO0.out).2.2
      have hcut5 := cut_to (P := Try.prog) 25 30 .i64 Try.underlying25 hi05 A0 l0.length c0 (ji2) (of_decide_eq_true (by first | (with_reducible assumption) | assumption)) q5 hroom5
      have hr5 := Kd.F_take (m := ((ji2) : Int).toNat) hC5 (by omega)
      have hy5 : y102.length = ((ji2) : Int).toNat := (by rw [Ny102.out, List.length_take]; omega)
      rw [← Ny102.out] at hr5
      rw [← hy5] at hcut5
      have HO106 := Aside0.mk (show Kd.V k30 30 _ w.heap.size _ (.slice A0 y102.length c0) y102 from Kd.V_mk (by omega) hr5)
      have HC106 := Aside0.mk (show y102.length ≤ c0 from by omega)
      clear hr5 hC5 hroom5 hi05 hsz5
      have KY5 := Aside0.mk hy5
      clear hy5
      replace q5 := eq_true q5
      go_enter Try.func13, Try.ntmps13
      go_wp2
      go_ret
      exact ⟨_, by first | rfl | (simp [errW_none, errW_some] <;> rfl) | (simp only [← hji2]; first | rfl | (simp [errW_none, errW_some] <;> rfl)) | (simp [*, errW_none, errW_some] <;> rfl), by (with_reducible repeat (first | apply Kd.V_alloc | apply Kd.V_drewN | apply Kd.V_drew)); exact HO106.out, by repeat (first | (with_reducible first | exact HB.out | apply below_alloc | apply pw_below_drewN | apply below_drew1) | exact HB.out)⟩
    · rw [if_neg c4] at H
      exact absurd H (by simp)
  · rw [if_neg c3] at H
    exact absurd H (by simp)

end Go.Proofs.Ythjfffgddegmoaa.PA
namespace Go.Proofs.Ythjfffgddegmoaa.PA
open Go.RowKit Go.Proofs.Ythjfffgddegmoaa.G Go.Proofs.YthjfffgddegmoaaW.PrintWords Go.Proofs.YthjfffgddegmoaaW.PrintLast Go.Proofs.YthjfffgddegmoaaW.PrintMore
set_option linter.unusedVariables false
set_option linter.unusedSimpArgs false
theorem rd_nat (l : List S30) (k : Nat) (hk : k < l.length) : rd_T30 l (k : Int) = l[k] := by simp [rd_T30, List.getD_eq_getElem?_getD, List.getElem?_eq_getElem hk]
theorem cell_alloc_old {w : World} {a : Addr} {v : Value} (o : Obj) (h : w.cell? a = some v) : (w.alloc o).cell? a = some v := by
  have hlt : a.block < w.heap.size := by
    rcases Nat.lt_or_ge a.block w.heap.size with q | q
    · exact q
    · unfold World.cell? at h
      rw [Array.getElem?_eq_none (by omega)] at h
      cases h
  have := (below_alloc (Below.refl w.heap.size w) o).block a.block hlt
  unfold World.cell? at h ⊢
  rw [this]
  exact h
theorem below_heap_old (w : World) (o : Obj) {b : Nat} (h : b < w.heap.size) : (w.alloc o).heap[b]? = w.heap[b]? := (below_alloc (Below.refl w.heap.size w) o).block b h
end Go.Proofs.Ythjfffgddegmoaa.PA
namespace Go.Proofs.Ythjfffgddegmoaa.G
open Go.RowKit Go.Proofs.Ythjfffgddegmoaa.PA Go.Proofs.YthjfffgddegmoaaW.PrintWords Go.Proofs.YthjfffgddegmoaaW.PrintMore
set_option linter.unusedVariables false
set_option linter.unusedSimpArgs false
theorem cut_f (l : List S30) : dryrotlaw16_cut.f l = some (l.take 14) := by
  unfold dryrotlaw16_cut.f mn
  by_cases h : (14 : Int) < l.length
  · rw [if_pos h]
    rw [if_pos (by omega), if_pos (by omega)]
    rfl
  · rw [if_neg h, if_pos (by omega), if_pos (by omega)]
    rw [Int.toNat_natCast, List.take_length, List.take_of_length_le (by omega)]
theorem awake_f : dryrotlaw16_awake.f = some true := by decide +kernel
end Go.Proofs.Ythjfffgddegmoaa.G
-- written by wip/gprint.py of this session (it runs the print of the guide's kit over contracts of the session)
namespace Go.Proofs.Ythjfffgddegmoaa.PA
open Go.RowKit Go.Proofs.YthjfffgddegmoaaW.PrintWords Go.Proofs.YthjfffgddegmoaaW.PrintLast Go.Proofs.YthjfffgddegmoaaW.PrintMore
attribute [local go_sem] max2_int min2_int max_two min_two max_three min_three max_four min_four   -- for this text's walks alone
set_option linter.unusedVariables false
set_option linter.unusedSimpArgs false

/-! ### slices_Index_int_int: function 34 -/
def slices_Index_int_int.l0 : Nat → List Int → Int → Int → Int → Option (Int)
  | 0, _, _, _, _ => none
  | k + 1, x0, x1, x7, x8 => if x8 < x7 then (if 0 ≤ x8 then (if x8 < (x0.length : Int) then (if x1 = (rd x0 x8) then (some x8) else (slices_Index_int_int.l0 k x0 x1 x7 (wrap64 (x8 + 1)))) else (none)) else (none)) else (some (-1))
def slices_Index_int_int.f (k : Nat) (l0 : List Int) (a1 : Int) : Option (Int) := slices_Index_int_int.l0 k l0 a1 (l0.length : Int) 0
theorem slices_Index_int_int.mono_l : ∀ k, (∀ y0 y1 y2 y3, LeO (slices_Index_int_int.l0 k y0 y1 y2 y3) (slices_Index_int_int.l0 (k + 1) y0 y1 y2 y3))
  | 0 => fun _ _ _ _ r h => by simp [slices_Index_int_int.l0] at h
  | k + 1 => by
    have ih0 := slices_Index_int_int.mono_l k
    · intro y0 y1 y2 y3
      unfold slices_Index_int_int.l0
      repeat' first
      | (with_reducible exact ih0 _ _ _ _)
      | (with_reducible exact LeO.refl _)
      | (with_reducible exact LeO.none _)
      | (with_reducible refine LeO.ite ?_ ?_)
      | (with_reducible refine LeO.bind ?_ (fun _ => ?_))
      | exact ih0 _ _ _ _
      | exact LeO.none _
      | refine LeO.ite ?_ ?_
      | refine LeO.bind ?_ (fun _ => ?_)
theorem slices_Index_int_int.mono : ∀ a0 a1 k, LeO (slices_Index_int_int.f k a0 a1) (slices_Index_int_int.f (k + 1) a0 a1) := by
  intro a0 a1 k
  have ih0 := slices_Index_int_int.mono_l k
  unfold slices_Index_int_int.f
  repeat' first
      | (with_reducible exact ih0 _ _ _ _)
      | (with_reducible exact LeO.refl _)
      | (with_reducible exact LeO.none _)
      | (with_reducible refine LeO.ite ?_ ?_)
      | (with_reducible refine LeO.bind ?_ (fun _ => ?_))
      | exact ih0 _ _ _ _
      | exact LeO.none _
      | refine LeO.ite ?_ ?_
      | refine LeO.bind ?_ (fun _ => ?_)
set_option maxHeartbeats 8000000 in
set_option maxRecDepth 100000 in
theorem slices_Index_int_int.calls (k : Nat) (A0 : Option Addr) (c0 : Nat) (l0 : List Int) (a1 : Int) (r : Int) (w : World) (hr0 : Kd.C (Kd.int .i64) w A0 l0.length l0) (hc0 : l0.length ≤ c0) (h : slices_Index_int_int.f k l0 a1 = some r) :
    Calls Try.prog 34 #[.slice A0 l0.length c0, .int .i64 a1] w fun e w' => e = .returned (.int .i64 r) ∧ Drawn0 w w' := by
  have HR0 := Aside0.mk hr0
  have HC0 := Aside0.mk hc0
  clear hr0 hc0
  have H : (slices_Index_int_int.l0 k l0 a1 (l0.length : Int) 0) = some r := h
  clear h
  have H' := Aside0.mk H
  clear H
  go_enter Try.func34, Try.ntmps34
  go_wp2
  go_loopg [8] k (fun kq v8 w' => ∃ (x8_1 : Int), v8 = .int .i64 x8_1 ∧ Aside0 (slices_Index_int_int.l0 kq l0 a1 (l0.length : Int) x8_1 = some r) ∧ Aside0 (kq ≤ k) ∧ Drawn0 w w')
  case atStart => exact ⟨(0), (by first | rfl | (simp; done) | (simp [*]; done)), H', ⟨Nat.le_refl _⟩, by repeat (first | exact Drawn0.refl _ | apply Drawn0.step)⟩
  case round =>
    clear H'
    try clear p2
    obtain ⟨x8_1, rfl, HA, HK1, ⟨m1, rfl⟩⟩ := hrel
    cases gk with
    | zero => exact absurd HA.out (by simp [slices_Index_int_int.l0])
    | succ k1 =>
      have H := HA.out
      clear HA
      simp only [slices_Index_int_int.l0] at H
      by_cases c3 : x8_1 < (l0.length : Int)
      · rw [if_pos c3] at H
        have c3b0 : decide (x8_1 < (l0.length : Int)) = true := decide_eq_true c3
        clear c3
        by_cases c4 : 0 ≤ x8_1
        · rw [if_pos c4] at H
          have c4b0 : decide (0 ≤ x8_1) = true := decide_eq_true c4
          clear c4
          by_cases c5 : x8_1 < (l0.length : Int)
          · rw [if_pos c5] at H
            have c5b0 : decide (x8_1 < (l0.length : Int)) = true := decide_eq_true c5
            clear c5
            by_cases c6 : a1 = (rd l0 x8_1)
            · rw [if_pos c6] at H
              have c6b0 : (a1 == (rd l0 x8_1)) = true := beq_iff_eq.mpr c6
              have c6b1 : (a1 != (rd l0 x8_1)) = false := bne_eq_false_iff_eq.mpr c6
              clear c6
              obtain rfl := Option.some.inj H
              have p108 : 0 ≤ (x8_1 : Int) := of_decide_eq_true (by first | (with_reducible assumption) | assumption)
              have q108 : x8_1 < (l0.length : Int) := of_decide_eq_true (by first | (with_reducible assumption) | assumption)
              obtain ⟨ad108, e108, hx108_0⟩ := Kd.at_int HR0.out x8_1 p108 q108
              cases e108
              replace p108 := eq_true p108
              replace q108 := eq_true q108
              go_wp2
              go_ret
              exact ⟨by first | rfl | (simp; done) | (simp [*]; done) | (simp; decide +kernel), by repeat (first | exact Drawn0.refl _ | apply Drawn0.step)⟩
            · rw [if_neg c6] at H
              have c6b0 : (a1 == (rd l0 x8_1)) = false := beq_eq_false_iff_ne.mpr c6
              have c6b1 : (a1 != (rd l0 x8_1)) = true := bne_iff_ne.mpr c6
              have H' := Aside0.mk H
              clear H
              have p108 : 0 ≤ (x8_1 : Int) := of_decide_eq_true (by first | (with_reducible assumption) | assumption)
              have q108 : x8_1 < (l0.length : Int) := of_decide_eq_true (by first | (with_reducible assumption) | assumption)
              obtain ⟨ad108, e108, hx108_0⟩ := Kd.at_int HR0.out x8_1 p108 q108
              cases e108
              replace p108 := eq_true p108
              replace q108 := eq_true q108
              go_wp2
              go_roundg k1
              case measure => have := HK1.out; omega
              case rel => exact ⟨(wrap64 (x8_1 + 1)), (by first | rfl | (simp; done) | (simp [*]; done)), H', ⟨by have := HK1.out; omega⟩, by repeat (first | exact Drawn0.refl _ | apply Drawn0.step)⟩
          · rw [if_neg c5] at H
            exact absurd H (by simp)
        · rw [if_neg c4] at H
          exact absurd H (by simp)
      · rw [if_neg c3] at H
        have c3b0 : decide (x8_1 < (l0.length : Int)) = false := decide_eq_false c3
        clear c3
        obtain rfl := Option.some.inj H
        go_wp2
        go_ret
        exact ⟨by first | rfl | (simp; done) | (simp [*]; done) | (simp; decide +kernel), by repeat (first | exact Drawn0.refl _ | apply Drawn0.step)⟩

end Go.Proofs.Ythjfffgddegmoaa.PA
-- written by wip/gprint.py of this session (it runs the print of the guide's kit over contracts of the session)
namespace Go.Proofs.Ythjfffgddegmoaa.PA
open Go.RowKit Go.Proofs.YthjfffgddegmoaaW.PrintWords Go.Proofs.YthjfffgddegmoaaW.PrintLast Go.Proofs.YthjfffgddegmoaaW.PrintMore
attribute [local go_sem] max2_int min2_int max_two min_two max_three min_three max_four min_four   -- for this text's walks alone
set_option linter.unusedVariables false
set_option linter.unusedSimpArgs false

/-! ### slices_Contains_int_int: function 15 -/
def slices_Contains_int_int.f (k : Nat) (l0 : List Int) (a1 : Int) : Option (Bool) := (slices_Index_int_int.f k l0 a1).bind fun t109 => (some (decide (t109 ≥ 0)))
theorem slices_Contains_int_int.mono : ∀ a0 a1 k, LeO (slices_Contains_int_int.f k a0 a1) (slices_Contains_int_int.f (k + 1) a0 a1) := by
  intro a0 a1 k
  unfold slices_Contains_int_int.f
  repeat' first
      | (with_reducible exact slices_Index_int_int.mono _ _ _)
      | (with_reducible exact LeO.refl _)
      | (with_reducible exact LeO.none _)
      | (with_reducible refine LeO.ite ?_ ?_)
      | (with_reducible refine LeO.bind ?_ (fun _ => ?_))
      | exact slices_Index_int_int.mono _ _ _
      | exact LeO.none _
      | refine LeO.ite ?_ ?_
      | refine LeO.bind ?_ (fun _ => ?_)
set_option maxHeartbeats 8000000 in
set_option maxRecDepth 100000 in
theorem slices_Contains_int_int.calls (k : Nat) (A0 : Option Addr) (c0 : Nat) (l0 : List Int) (a1 : Int) (r : Bool) (w : World) (hr0 : Kd.C (Kd.int .i64) w A0 l0.length l0) (hc0 : l0.length ≤ c0) (h : slices_Contains_int_int.f k l0 a1 = some r) :
    Calls Try.prog 15 #[.slice A0 l0.length c0, .int .i64 a1] w fun e w' => e = .returned (.bool r) ∧ Drawn0 w w' := by
  have HR0 := Aside0.mk hr0
  have HC0 := Aside0.mk hc0
  clear hr0 hc0
  have H : ((slices_Index_int_int.f k l0 a1).bind fun t109 => (some (decide (t109 ≥ 0)))) = some r := h
  clear h
  replace H := Option.bind_eq_some_iff.mp H
  obtain ⟨t109, A30, H⟩ := H
  replace H : (some (decide (t109 ≥ 0))) = some r := H
  have A3 := Aside0.mk A30
  clear A30
  obtain rfl := Option.some.inj H
  go_enter Try.func15, Try.ntmps15
  go_wp2_with (first | ((with_reducible refine gate_callee (f := 34) rfl ?_); refine goesL_ (some 7) rfl rfl Try.func34 (by kernel_rfl) rfl #[.slice A0 l0.length c0, .int .i64 a1] rfl (by (try simp only [List.map_toArray, List.map_cons, List.map_nil]); first | done | rfl | (simp only [List.length_drop, List.length_take]; rfl)) ?_; (with_reducible refine (slices_Index_int_int.calls k _ _ l0 a1 t109 _ ?side1 ?side2 A3.out).mono ?_); (case side1 => repeat (first | exact HR0.out | (with_reducible refine Kd.C_alloc ?_ _) | (with_reducible refine Kd.C_drewN ?_ _) | (with_reducible refine Kd.C_drew ?_))); (case side2 => exact HC0.out); rintro e w' ⟨rfl, ⟨nd, rfl⟩⟩; refine ⟨_, rfl, ?_⟩))
  go_ret
  exact ⟨by first | rfl | (simp; done) | (simp [*]; done) | (simp; decide +kernel), by repeat (first | exact Drawn0.refl _ | apply Drawn0.step)⟩

end Go.Proofs.Ythjfffgddegmoaa.PA
namespace Go.Proofs.Ythjfffgddegmoaa.PA
open Go.RowKit Go.Proofs.Ythjfffgddegmoaa.G Go.Proofs.YthjfffgddegmoaaW.PrintWords Go.Proofs.YthjfffgddegmoaaW.PrintLast Go.Proofs.YthjfffgddegmoaaW.PrintMore
set_option linter.unusedVariables false
set_option linter.unusedSimpArgs false
/-- another one, that counts, has this number among its parents -/
def kid (gen num : Int) (i : Nat) : List S30 → Nat → Bool
  | [], _ => false
  | o :: r, k => (decide (k ≠ i) && decide (o.f1 ≤ gen) && o.f7.contains num) || kid gen num i r (k + 1)
theorem kid_step (gen num : Int) (i : Nat) (l : List S30) (k : Nat) (hk : k < l.length) : kid gen num i (l.drop k) k = ((decide (k ≠ i) && decide ((rd_T30 l (k : Int)).f1 ≤ gen) && (rd_T30 l (k : Int)).f7.contains num) || kid gen num i (l.drop (k + 1)) (k + 1)) := by
  rw [rd_nat l k hk, List.drop_eq_getElem_cons hk]
  rfl
theorem wrB {i : Nat} (h : i ≤ 17592186044416) : wrap64 ((i : Int) + 1) = ((i + 1 : Nat) : Int) := by rw [w64 (by omega) (by omega)]; omega
theorem contains_goB (l : List Int) (v : Int) (hl : l.length ≤ 17592186044416) : ∀ d i, i + d = l.length → ∀ k, d < k → ∃ r : Int, slices_Index_int_int.l0 k l v (l.length : Int) (i : Int) = some r ∧ (decide (r ≥ 0)) = (l.drop i).contains v
  | 0, i, h, k + 1, hk => by
    refine ⟨-1, ?_, ?_⟩
    · unfold slices_Index_int_int.l0
      rw [if_neg (by omega)]
    · rw [List.drop_of_length_le (by omega)]
      rfl
  | d + 1, i, h, k + 1, hk => by
    have hi : i < l.length := by omega
    unfold slices_Index_int_int.l0
    rw [if_pos (by omega), if_pos (by omega), if_pos (by omega), show rd l (i : Int) = l[i] from by simp [rd, List.getD_eq_getElem?_getD, List.getElem?_eq_getElem hi], List.drop_eq_getElem_cons hi, List.contains_cons]
    by_cases e : v = l[i]
    · rw [if_pos e]
      exact ⟨i, rfl, by simp [e]⟩
    · rw [if_neg e, wrB (by omega)]
      obtain ⟨r, h1, h2⟩ := contains_goB l v hl d (i + 1) (by omega) k (by omega)
      exact ⟨r, h1, by rw [h2, show (v == l[i]) = false from beq_eq_false_iff_ne.2 e, Bool.false_or]⟩
theorem contains_big (l : List Int) (v : Int) (hl : l.length ≤ 17592186044416) (k : Nat) (hk : l.length < k) : slices_Contains_int_int.f k l v = some (l.contains v) := by
  obtain ⟨r, h1, h2⟩ := contains_goB l v hl l.length 0 (by omega) k hk
  have h1' : slices_Index_int_int.l0 k l v (l.length : Int) 0 = some r := h1
  rw [slices_Contains_int_int.f, slices_Index_int_int.f, h1', Option.bind_some, h2, List.drop_zero]
theorem contains_c.calls (A0 : Option Addr) (c0 : Nat) (l : List Int) (v : Int) (r : Bool) (w : World) (hr : Kd.C (Kd.int .i64) w A0 l.length l) (hc : l.length ≤ c0) (hl : l.length ≤ 17592186044416) (hv : l.contains v = r) :
    Calls Try.prog 15 #[.slice A0 l.length c0, .int .i64 v] w fun e w' => e = .returned (.bool r) ∧ ∃ m, w' = w.drewN m := by
  subst hv
  refine (slices_Contains_int_int.calls (l.length + 1) A0 c0 l v (l.contains v) w hr hc (contains_big l v hl _ (by omega))).mono ?_
  rintro e w' ⟨he, m, rfl⟩
  exact ⟨he, m, rfl⟩
set_option maxHeartbeats 2000000 in
set_option maxRecDepth 100000 in
theorem children.calls (A0 : Option Addr) (c0 : Nat) (l : List S30) (gen : Int) (i : Nat) (gl gg : Nat) (w : World) (hr0 : Kd.C k30 w A0 l.length l) (hlen : l.length ≤ 1000) (hi : i < l.length) (hp : ∀ x ∈ l, x.f7.length ≤ 17592186044416)
    (hgl : w.heap[gl]? = some (.cells #[.slice A0 l.length c0] 25 (0, 0))) (hgg : w.heap[gg]? = some (.cells #[.int .i64 gen] 3 (0, 0))) :
    Calls Try.prog 41 #[.int .i64 i, .pointer (some ⟨gl, 0, none⟩), .pointer (some ⟨gg, 0, none⟩)] w fun e w' => e = .returned (.bool (kid gen (rd_T30 l (i : Int)).f0 i l 0)) ∧ Below w.heap.size w w' := by
  have HR := Aside0.mk hr0
  have HL := Aside0.mk hgl
  have HG := Aside0.mk hgg
  have HP := Aside0.mk hp
  have hcl := blk_cell hgl 0
  clear hr0 hgg hp hgl
  obtain ⟨num, hnum⟩ : ∃ num, (rd_T30 l (i : Int)).f0 = num := ⟨_, rfl⟩
  rw [hnum]
  have HNUM := Aside0.mk hnum
  clear hnum
  go_enter Try.func41, Try.ntmps41
  go_wp2
  clear hcl
  go_loopw [9] (fun j wr => ∃ k : Nat, k ≤ l.length ∧ j = .int .i64 k ∧ Aside0 (kid gen num i l 0 = kid gen num i (l.drop k) k) ∧ Aside0 (Below w.heap.size w wr)) (fun j _ => l.length - (intOf j).toNat)
  case atStart => exact ⟨0, Nat.zero_le _, rfl, ⟨rfl⟩, ⟨Below.refl _ _⟩⟩
  case round =>
    obtain ⟨k, hk, rfl, HE, HB⟩ := hrel
    by_cases hlt : k < l.length
    · have hC := Kd.C_below HR.out HB.out
      obtain ⟨ad, A7, c7, rfl, h0, h1, h2, h3, h4, h5, h6, h7, l7, g7⟩ := at_T30 hC (k : Int) (by omega) (by omega)
      obtain ⟨ad', B7, d7, hh, i0, _⟩ := at_T30 hC (i : Int) (by omega) (by omega)
      obtain rfl := Option.some.inj hh
      rw [Int.toNat_natCast] at h0 h1 h2 h3 h4 h5 h6 h7 i0
      rw [HNUM.out] at i0
      have HST := Aside0.mk (kid_step gen num i l k hlt)
      have HP7 : Aside0 ((rd_T30 l (k : Int)).f7.length ≤ 17592186044416) := ⟨HP.out _ (by rw [rd_nat l k hlt]; exact List.getElem_mem hlt)⟩
      have G7 := Aside0.mk g7
      have L7 := Aside0.mk l7
      have hgl' := (HB.out.block gl (blk_lt HL.out)).trans HL.out
      have hgg' := (HB.out.block gg (blk_lt HG.out)).trans HG.out
      have hcl := blk_cell hgl' 0
      have hcg := blk_cell hgg' 0
      clear hC g7 l7 hgl' hgg'
      generalize rd_T30 l (k : Int) = x at h0 h1 h2 h3 h4 h5 h6 h7 HST HP7 G7 L7
      go_wp2
      have hw1 := blk_new wr (.cells #[.int .i64 x.f0, .int .i64 x.f1, .int .i64 x.f2, .int .i64 x.f3, .int .i64 x.f4, .int .i64 x.f5, .int .i64 x.f6, .slice A7 x.f7.length c7] 30 (0, 0))
      have hx1 := blk_cell hw1 1
      have hx7 := blk_cell hw1 7
      have i0' := cell_alloc_old (.cells #[.int .i64 x.f0, .int .i64 x.f1, .int .i64 x.f2, .int .i64 x.f3, .int .i64 x.f4, .int .i64 x.f5, .int .i64 x.f6, .slice A7 x.f7.length c7] 30 (0, 0)) i0
      have hcl' := cell_alloc_old (.cells #[.int .i64 x.f0, .int .i64 x.f1, .int .i64 x.f2, .int .i64 x.f3, .int .i64 x.f4, .int .i64 x.f5, .int .i64 x.f6, .slice A7 x.f7.length c7] 30 (0, 0)) hcl
      have hcg' := cell_alloc_old (.cells #[.int .i64 x.f0, .int .i64 x.f1, .int .i64 x.f2, .int .i64 x.f3, .int .i64 x.f4, .int .i64 x.f5, .int .i64 x.f6, .slice A7 x.f7.length c7] 30 (0, 0)) hcg
      have HB5 := Aside0.mk (below_alloc HB.out (.cells #[.int .i64 x.f0, .int .i64 x.f1, .int .i64 x.f2, .int .i64 x.f3, .int .i64 x.f4, .int .i64 x.f5, .int .i64 x.f6, .slice A7 x.f7.length c7] 30 (0, 0)))
      have HG5 := Aside0.mk (Kd.C_alloc G7.out (.cells #[.int .i64 x.f0, .int .i64 x.f1, .int .i64 x.f2, .int .i64 x.f3, .int .i64 x.f4, .int .i64 x.f5, .int .i64 x.f6, .slice A7 x.f7.length c7] 30 (0, 0)))
      clear hw1 h0 h1 h2 h3 h4 h5 h6 h7 i0 hcl hcg
      generalize wr.alloc (.cells #[.int .i64 x.f0, .int .i64 x.f1, .int .i64 x.f2, .int .i64 x.f3, .int .i64 x.f4, .int .i64 x.f5, .int .i64 x.f6, .slice A7 x.f7.length c7] 30 (0, 0)) = W5 at hx1 hx7 i0' hcl' hcg' HB5 HG5 ⊢
      by_cases hki : k = i
      · have hb1 : ((k : Int) != (i : Int)) = false := bne_eq_false_iff_eq.2 (by omega)
        have HN : Aside0 (kid gen num i l 0 = kid gen num i (l.drop (k + 1)) (k + 1)) := ⟨by rw [HE.out, HST.out, decide_eq_false (show ¬ k ≠ i from by omega)]; simp⟩
        clear hki
        go_quiet (fail)
        have HB6 := Aside0.mk (pw_below_drewN HB5.out nq)
        go_wp2
        go_roundw
        case rel => exact ⟨k + 1, by omega, by go_num, HN, HB6⟩
        case measure => simp [intOf]; omega
      · have hb1 : ((k : Int) != (i : Int)) = true := bne_iff_ne.2 (by omega)
        by_cases hge : x.f1 ≤ gen
        · have hb2 : decide (x.f1 ≤ gen) = true := decide_eq_true hge
          cases hcn : x.f7.contains num with
          | true =>
            have HN : Aside0 (kid gen num i l 0 = true) := ⟨by rw [HE.out, HST.out, decide_eq_true (show k ≠ i from hki), hb2, hcn]; rfl⟩
            have HCC := Aside0.mk hcn
            clear hki hge hcn
            go_quiet ((go_at_call 15; (refine Calls.quiet_of (contains_c.calls A7 c7 x.f7 num true _ (Kd.C_drewN HG5.out _) L7.out HP7.out HCC.out))))
            have HB6 := Aside0.mk (pw_below_drewN HB5.out nq)
            go_wp2
            go_ret
            exact ⟨by rw [HN.out]; rfl, HB6.out⟩
          | false =>
            have HN : Aside0 (kid gen num i l 0 = kid gen num i (l.drop (k + 1)) (k + 1)) := ⟨by rw [HE.out, HST.out, hcn]; simp⟩
            have HCC := Aside0.mk hcn
            clear hki hge hcn
            go_quiet ((go_at_call 15; (refine Calls.quiet_of (contains_c.calls A7 c7 x.f7 num false _ (Kd.C_drewN HG5.out _) L7.out HP7.out HCC.out))))
            have HB6 := Aside0.mk (pw_below_drewN HB5.out nq)
            go_wp2
            go_roundw
            case rel => exact ⟨k + 1, by omega, by go_num, HN, HB6⟩
            case measure => simp [intOf]; omega
        · have hb2 : decide (x.f1 ≤ gen) = false := decide_eq_false hge
          have HN : Aside0 (kid gen num i l 0 = kid gen num i (l.drop (k + 1)) (k + 1)) := ⟨by rw [HE.out, HST.out, hb2]; simp⟩
          clear hki hge
          go_quiet (fail)
          have HB6 := Aside0.mk (pw_below_drewN HB5.out nq)
          go_wp2
          go_roundw
          case rel => exact ⟨k + 1, by omega, by go_num, HN, HB6⟩
          case measure => simp [intOf]; omega
    · obtain rfl : k = l.length := by omega
      go_wp2
      go_ret
      exact ⟨by rw [HE.out, List.drop_length]; rfl, HB.out⟩
end Go.Proofs.Ythjfffgddegmoaa.PA
namespace Go.Proofs.Ythjfffgddegmoaa.PA
open Go.RowKit Go.Proofs.Ythjfffgddegmoaa.G Go.Proofs.YthjfffgddegmoaaW.PrintWords Go.Proofs.YthjfffgddegmoaaW.PrintLast Go.Proofs.YthjfffgddegmoaaW.PrintMore
set_option linter.unusedVariables false
set_option linter.unusedSimpArgs false
set_option maxHeartbeats 2000000 in
set_option maxRecDepth 100000 in
theorem cloneI.calls (A0 : Option Addr) (c0 : Nat) (l : List Int) (w : World) (hr : Kd.C (Kd.int .i64) w A0 l.length l) (hc : l.length ≤ c0) (hl : l.length ≤ 17592186044415) :
    Calls Try.prog 42 #[.slice A0 l.length c0] w fun e w' => ∃ v : Value, e = .returned v ∧ Kd.R (Kd.int .i64) 3 w' w.heap.size (fun _ => True) v l ∧ Below w.heap.size w w' := by
  have hnil := fun W A n c => Lib.run_eql_slice_nil (P := Try.prog) W 27 3 A n c 0 0 Try.underlying27
  have HR := Aside0.mk hr
  have HL := Aside0.mk hl
  clear hl
  go_enter Try.func42, Try.ntmps42
  rcases A0 with _ | ad
  · have h0 : l = [] := by
      rcases l with _ | ⟨x, l⟩
      · rfl
      · obtain ⟨ad, h, _⟩ := hr.2.2 (by simp)
        cases h
    subst h0
    clear hr
    go_wp2
    go_ret
    exact ⟨_, rfl, Kd.R_nil _ _ _ _ _, Below.refl _ _⟩
  · clear hr
    go_wp2_with (first | ((with_reducible refine gate_builtin (b := .append) (xs := #[.tmp 5, .tmp 6]) rfl ?_); go_must (refine Kd.R_append_row (w0 := w) (Value.int .i64) 0 (h1 := fun _ => rfl) w.heap.size rfl (.tmp 5) (.tmp 6) 27 3 (.int .i64 0) 8 rfl Try.underlying27 info3 rfl (by decide) (.slice (some ⟨w.heap.size, 0, none⟩) 0 0) [] l (some ad) l.length c0 (fun _ => True) rfl rfl (fun _ _ => trivial) (R_empty (Kd.int .i64) 3 w.heap.size w (fun _ => True) (Nat.le_refl _) trivial) (Kd.C_alloc HR.out _) (below_alloc (Below.refl _ _) _) ?h5 ?h6 ?_); (case h5 => simp); (case h6 => (have := HL.out; simp only [List.length_nil]; omega)); intro v4 w4 hR4 hB4 hg4 ho4; have HR4 := Aside0.mk hR4; have HB4 := Aside0.mk hB4; clear hR4 hB4 hg4 ho4))
    go_ret
    exact ⟨_, rfl, by have := HR4.out; rwa [List.nil_append] at this, HB4.out⟩
end Go.Proofs.Ythjfffgddegmoaa.PA
namespace Go.Proofs
open Go.Shelf Go.RowKit Go.Lib Go.Sort
def Try.insSort_ren : Go.Shelf.Ren := ⟨fun | 20 => 49 | n => n, fun | 24 => 30 | 22 => 25 | 3 => 3 | 25 => 61 | 4 => 4 | 0 => 0 | n => n, fun | n => n⟩
theorem Try.insSort : Go.Proofs.SlLaysF0.n20 Try.prog Try.insSort_ren := {
  mixed := by kernel_rfl
  f20 := ⟨Try.f49.name, by decide, Try.func49.trans (congrArg some (by kernel_rfl))⟩
  t0 := Try.underlying0
  a0 := Try.isAgg0
  z0 := Try.sizeOf0
  v0 := Try.zeroValue0
  t3 := Try.underlying3
  a3 := Try.isAgg3
  z3 := Try.sizeOf3
  v3 := Try.zeroValue3
  t4 := Try.underlying4
  a4 := Try.isAgg4
  z4 := Try.sizeOf4
  v4 := Try.zeroValue4
  t22 := Try.underlying25
  a22 := Try.isAgg25
  z22 := Try.sizeOf25
  v22 := Try.zeroValue25
  t25 := Try.underlying61
  a25 := Try.isAgg61
  z25 := Try.sizeOf61
  v25 := Try.zeroValue61 }
end Go.Proofs
namespace Go.Proofs.Ythjfffgddegmoaa.PA
open Go.Shelf Go.RowKit Go.Lib Go.Sort
set_option linter.unusedVariables false
set_option linter.unusedSimpArgs false
/-- a footer, and where its parents lie -/
structure E where
  x : S30
  A : Option Addr
  c : Nat
instance : Inhabited E := ⟨⟨z30, none, 0⟩⟩
def encE (e : E) : List Value := [.int .i64 e.x.f0, .int .i64 e.x.f1, .int .i64 e.x.f2, .int .i64 e.x.f3, .int .i64 e.x.f4, .int .i64 e.x.f5, .int .i64 e.x.f6, .slice e.A e.x.f7.length e.c]
def cmpI (x y : Int) : Int := if x < y then -1 else if y < x then 1 else 0
def cfE (a b : E) : Int := cmpI a.x.f3 b.x.f3
set_option maxHeartbeats 2000000 in
theorem cmpE.calls (a b : E) (W : World) : Calls Try.prog 44 #[.agg (encE a).toArray, .agg (encE b).toArray] W fun e w' => e = .returned (.int .i64 (cfE a b)) ∧ ∃ q os', w' = grow (W.drewN q) os' := by
  unfold encE
  simp only [List.toArray]
  go_enter Try.func44, Try.ntmps44
  have h0 : (a.x.f3 != a.x.f3) = false := by simp
  have h1 : (b.x.f3 != b.x.f3) = false := by simp
  by_cases h2 : a.x.f3 < b.x.f3
  · have d2 : decide (a.x.f3 < b.x.f3) = true := decide_eq_true h2
    have HC : Aside (cfE a b = -1) := by show cfE a b = -1; unfold cfE cmpI; rw [if_pos h2]
    clear h2
    go_wp2_with (first | go_in)
    go_ret
    exact ⟨by rw [show cfE a b = -1 from HC]; rfl, 0, _, by rw [alloc_eq_grow, alloc_eq_grow, grow_grow]; rfl⟩
  · have d2 : decide (a.x.f3 < b.x.f3) = false := decide_eq_false h2
    by_cases h3 : b.x.f3 < a.x.f3
    · have d3 : decide (b.x.f3 < a.x.f3) = true := decide_eq_true h3
      have HC : Aside (cfE a b = 1) := by show cfE a b = 1; unfold cfE cmpI; rw [if_neg h2, if_pos h3]
      clear h2 h3
      go_wp2_with (first | go_in)
      go_ret
      exact ⟨by rw [show cfE a b = 1 from HC]; rfl, 0, _, by rw [alloc_eq_grow, alloc_eq_grow, grow_grow]; rfl⟩
    · have d3 : decide (b.x.f3 < a.x.f3) = false := decide_eq_false h3
      have HC : Aside (cfE a b = 0) := by show cfE a b = 0; unfold cfE cmpI; rw [if_neg h2, if_neg h3]
      clear h2 h3
      go_wp2_with (first | go_in)
      go_ret
      exact ⟨by rw [show cfE a b = 0 from HC]; rfl, 0, _, by rw [alloc_eq_grow, alloc_eq_grow, grow_grow]; rfl⟩
theorem cmpE.lays (blk off size : Nat) (w : World) : CmpLays Try.prog 44 #[] encE 8 cfE blk off size w :=
  fun _ _ _ _ x y => cmpE.calls x y _
theorem isAgg30 : ∀ w, (isAgg 30).run Try.prog w = .ok true w := fun w => by kernel_rfl
theorem sizeOf30 : ∀ w, (Go.sizeOf 30).run Try.prog w = .ok 8 w := fun w => by kernel_rfl
theorem encE_one (x : E) : ∀ v ∈ encE x, v.oneCell' = true := by
  intro v hv
  simp only [encE, List.mem_cons, List.not_mem_nil, or_false] at hv
  rcases hv with rfl | rfl | rfl | rfl | rfl | rfl | rfl | rfl <;> rfl
def sortE (d : Array E) : Array E := Sort.insertionSort (ltOf cfE) d 0 d.size
theorem insE.calls (blk cap : Nat) (d : Array E) (w : World) (hH : HoldsK encE 8 w blk 0 d) (hblk : blk < w.heap.size) (hsz : d.size ≤ 14) :
    Calls Try.prog 49 #[.slice (some ⟨blk, 0, none⟩) d.size cap, .int .i64 0, .int .i64 d.size, .func (.func 44) #[] #[]] w fun e w' => e = .returned (.tuple #[]) ∧ ∃ n os, w' = sortWorldK encE 8 w blk 0 n (sortE d) os := by
  have eg : ∀ args w, (callFunc 44 args).run Try.prog w = .ok (.enter 44 args) w := enters_of Try.func44 (by kernel_rfl) rfl
  exact AnyQ.insertionSortCmpFunc Try.insSort 8 isAgg30 sizeOf30 encE (fun _ => rfl) encE_one cfE 44 #[] blk 0 cap 0 d.size d w eg (cmpE.lays blk 0 d.size w) hH hblk (Nat.zero_le _) (Nat.le_refl _) (by omega)
set_option maxHeartbeats 2000000 in
theorem stableE.calls (blk cap : Nat) (d : Array E) (w : World) (hH : HoldsK encE 8 w blk 0 d) (hblk : blk < w.heap.size) (hsz : d.size ≤ 14) :
    Calls Try.prog 47 #[.slice (some ⟨blk, 0, none⟩) d.size cap, .int .i64 d.size, .func (.func 44) #[] #[]] w fun e w' => e = .returned (.tuple #[]) ∧ ∃ n os, w' = sortWorldK encE 8 w blk 0 n (sortE d) os := by
  have HI := YthjfffgddegmoaaW.PrintWords.Aside0.mk (insE.calls blk cap d w hH hblk hsz)
  have h1 : decide ((20 : Int) ≤ (d.size : Int)) = false := decide_eq_false (by omega)
  have h2 : decide ((20 : Int) < (d.size : Int)) = false := decide_eq_false (by omega)
  clear hH hblk
  generalize d.size = n at *
  go_enter Try.func47, Try.ntmps47
  go_wp2
  go_loopw [7, 8] (fun a i wr => a = .int .i64 0 ∧ i = .int .i64 20 ∧ wr = w) (fun _ _ _ => 0)
  case atStart => exact ⟨rfl, rfl, rfl⟩
  case round =>
    obtain ⟨rfl, rfl, rfl⟩ := hrel
    go_wp2_with (first | (go_at_call 49; refine HI.out.mono ?_; rintro e w' ⟨rfl, n', os, hw'⟩; have HW := YthjfffgddegmoaaW.PrintWords.Aside0.mk hw'; clear hw'))
    go_loopw [6, 7, 8, 9] (fun p a i m wq => p = .int .i64 20 ∧ YthjfffgddegmoaaW.PrintWords.Aside0 (wq = w')) (fun _ _ _ _ _ => 0)
    case atStart => exact ⟨rfl, ⟨rfl⟩⟩
    case round =>
      obtain ⟨rfl, HQ⟩ := hrel
      go_wp2
      go_end0
      exact ⟨rfl, n', os, HQ.out.trans HW.out⟩
set_option maxHeartbeats 2000000 in
theorem sortStableE.calls (blk cap : Nat) (d : Array E) (w : World) (hH : HoldsK encE 8 w blk 0 d) (hblk : blk < w.heap.size) (hsz : d.size ≤ 14) :
    Calls Try.prog 43 #[.slice (some ⟨blk, 0, none⟩) d.size cap, .func (.func 44) #[] #[]] w fun e w' => e = .returned (.tuple #[]) ∧ ∃ n os, w' = sortWorldK encE 8 w blk 0 n (sortE d) os := by
  have HI := YthjfffgddegmoaaW.PrintWords.Aside0.mk (stableE.calls blk cap d w hH hblk hsz)
  clear hH hblk
  generalize d.size = n at *
  go_enter Try.func43, Try.ntmps43
  go_wp2_with (first | (go_at_call 47; refine HI.out.mono ?_; rintro e w' ⟨rfl, n', os, hw'⟩; have HW := YthjfffgddegmoaaW.PrintWords.Aside0.mk hw'; clear hw'))
  go_end0
  exact ⟨rfl, n', os, HW.out⟩
set_option maxHeartbeats 2000000 in
/-- of nothing: nothing is done -/
theorem sortNil.calls (w : World) : Calls Try.prog 43 #[.slice none 0 0, .func (.func 44) #[] #[]] w fun e w' => e = .returned (.tuple #[]) ∧ w' = w := by
  have ins : ∀ W : World, Calls Try.prog 49 #[.slice none 0 0, .int .i64 0, .int .i64 0, .func (.func 44) #[] #[]] W fun e w' => e = .returned (.tuple #[]) ∧ w' = W := by
    intro W
    go_enter Try.func49, Try.ntmps49
    go_wp2
    go_loopw [8, 9] (fun a b wr => a = .int .i64 1 ∧ wr = W) (fun _ _ _ => 0)
    case atStart => exact ⟨rfl, rfl⟩
    case round =>
      obtain ⟨rfl, rfl⟩ := hrel
      go_wp2
      go_end0
      exact ⟨rfl, rfl⟩
  have stab : ∀ W : World, Calls Try.prog 47 #[.slice none 0 0, .int .i64 0, .func (.func 44) #[] #[]] W fun e w' => e = .returned (.tuple #[]) ∧ w' = W := by
    intro W
    have HI := YthjfffgddegmoaaW.PrintWords.Aside0.mk (ins W)
    clear ins
    go_enter Try.func47, Try.ntmps47
    go_wp2
    go_loopw [7, 8] (fun a i wr => a = .int .i64 0 ∧ i = .int .i64 20 ∧ wr = W) (fun _ _ _ => 0)
    case atStart => exact ⟨rfl, rfl, rfl⟩
    case round =>
      obtain ⟨rfl, rfl, rfl⟩ := hrel
      go_wp2_with (first | (go_at_call 49; refine HI.out.mono ?_; rintro e w' ⟨rfl, hw'⟩; have HW := YthjfffgddegmoaaW.PrintWords.Aside0.mk hw'; clear hw'))
      go_loopw [6, 7, 8, 9] (fun p a i m wq => p = .int .i64 20 ∧ YthjfffgddegmoaaW.PrintWords.Aside0 (wq = w')) (fun _ _ _ _ _ => 0)
      case atStart => exact ⟨rfl, ⟨rfl⟩⟩
      case round =>
        obtain ⟨rfl, HQ⟩ := hrel
        go_wp2
        go_end0
        exact ⟨rfl, HQ.out.trans HW.out⟩
  have HI := YthjfffgddegmoaaW.PrintWords.Aside0.mk (stab w)
  clear ins stab
  go_enter Try.func43, Try.ntmps43
  go_wp2_with (first | (go_at_call 47; refine HI.out.mono ?_; rintro e w' ⟨rfl, hw'⟩; have HW := YthjfffgddegmoaaW.PrintWords.Aside0.mk hw'; clear hw'))
  go_end0
  exact ⟨rfl, HW.out⟩
end Go.Proofs.Ythjfffgddegmoaa.PA
namespace Go.Proofs.Ythjfffgddegmoaa.G
open Go.ChangeShapes Go.WideShapes Go.Deep Go.RowKit Go.Proofs.Ythjfffgddegmoaa.PA Go.Proofs.YthjfffgddegmoaaW.PrintWords
set_option linter.unusedVariables false
section
variable {H : Type} {enc : TypeId × Value → H} {P : Program} {w : World} {base : Nat} {spare : Nat → Bool} {held : Bool}
theorem open_slice_fields {t e : TypeId} {fs : Array Field} {fuel : Nat} {cs : List Value} {x : DataW H × List MemPlace} (ht : P.underlying t = some (.slice e)) (he : P.underlying e = some (.struct fs))
    (hone : oneCellFields P fs = true) (hC : P.cellsOf e = fs.size) (h : DataW.trod enc P w base spare held fuel t cs = some x) :
    (cs = [.slice none 0 0] ∧ x = (.nil, [])) ∨
    ∃ (a : Addr) (len cap m : Nat) (D : Nat → DataW H) (Pl : Nat → List MemPlace), cs = [.slice (some a) len cap] ∧ base ≤ a.block ∧ len ≤ cap ∧ cap ≤ maxLen ∧ m = (if spare a.block then cap else len) ∧
      x = (.slice ((List.range len).map D) ((List.range (m - len)).map fun j => D (len + j)), MemPlace.row a (m * fs.size) ++ (List.range m).flatMap Pl) ∧
      ∀ i, i < m → ∃ (ys : List (DataW H × List MemPlace)) (n : Nat), D i = .agg (ys.map (·.1)) ∧ Pl i = ys.flatMap (·.2) ∧ ys.length = fs.size ∧
        ∀ (j : Nat) (f : Field), fs[j]? = some f → ∃ (v : Value) (y : DataW H × List MemPlace), w.cell? (a.add (i * fs.size + j)) = some v ∧ ys[j]? = some y ∧ DataW.trod enc P w base spare held n f.type [v] = some y := by
  rcases open_slice ht h with h0 | ⟨a, len, cap, m, n, D, Pl, hcs, hb, hl, hm, hmm, hx, hi⟩
  · exact .inl h0
  · refine .inr ⟨a, len, cap, m, D, Pl, hcs, hb, hl, hm, hmm, by rw [hC] at hx; exact hx, fun i him => ?_⟩
    obtain ⟨cs', hc, ht'⟩ := hi i him
    rw [hC] at hc
    obtain ⟨ys, n', hn', hy, hlen, hyl, hf⟩ := DataW.trod_struct he ht'
    obtain ⟨_, hcl, hat⟩ := World.cells?_some hc
    simp only [Prod.mk.injEq] at hy
    refine ⟨ys, n', hy.1, hy.2, hyl, fun j f hj => ?_⟩
    obtain ⟨ho, hk⟩ := hone_of hone j f hj
    have hjl : j < fs.size := (Array.getElem?_eq_some_iff.1 hj).1
    have hcell := hat j hjl
    have hv : cs'[j]? = some (cs'[j]'(by omega)) := List.getElem?_eq_getElem (by omega)
    have h1 := hf j f hj
    rw [ho, hk] at h1
    have hone' : (cs'.drop j).take 1 = [cs'[j]'(by omega)] := by
      rw [List.drop_eq_getElem_cons (by omega)]
      rfl
    rw [hone'] at h1
    have hys : ys[j]? = some (ys[j]'(by omega)) := List.getElem?_eq_getElem (by omega)
    refine ⟨_, _, ?_, hys, h1.trans hys⟩
    rw [← Go.Deep.add_add, hcell, hv]
end
section
variable {H : Type} {enc : TypeId × Value → H} {w : World}
/-- a field that is a whole number -/
theorem foot_int {n : Nat} {v : Value} {y : DataW H × List MemPlace} (h : DataW.trod enc Try.prog w 0 (fun _ => true) true n 3 [v] = some y) : ∃ a : Int, v = .int .i64 a ∧ (Lit.int .i64 a).wf = true := by
  obtain ⟨a, hcs, _, hw⟩ := DataW.trod_int Try.underlying3 h
  exact ⟨a, by simpa using hcs, hw⟩
/-- a field that is a row of whole numbers -/
theorem foot_ints {n : Nat} {v : Value} {y : DataW H × List MemPlace} (h : DataW.trod enc Try.prog w 0 (fun _ => true) true n 27 [v] = some y) :
    ∃ (A : Option Addr) (c : Nat) (l : List Int), v = .slice A l.length c ∧ l.length ≤ c ∧ (Kd.int .i64).C w A l.length l ∧ ∀ z ∈ l, (Lit.int .i64 z).wf = true := by
  obtain ⟨a, len, cap, zs, rfl, w0⟩ : ∃ a len cap zs, v = .slice a len cap ∧ ((a = none ∧ len = 0 ∧ cap = 0 ∧ zs = []) ∨ ∃ x, a = some x ∧ len ≤ cap ∧ cap ≤ maxLen ∧ zs.length = cap ∧ (∀ i, i < zs.length → w.cell? (x.add i) = some (.int .i64 (zs.getD i 0))) ∧ ∀ n ∈ zs, (Lit.int .i64 n).wf = true) := by
    rcases open_ints Try.underlying27 Try.underlying3 (by kernel_rfl) h with ⟨hcs, _⟩ | ⟨x, l, c, zs, hcs, _, hl, hm, hz, _, hcell, hwz⟩
    · simp only [List.cons.injEq, and_true] at hcs
      exact ⟨none, 0, 0, [], hcs, .inl ⟨rfl, rfl, rfl, rfl⟩⟩
    · simp only [List.cons.injEq, and_true] at hcs
      exact ⟨some x, l, c, zs, hcs, .inr ⟨_, rfl, hl, hm, by simpa using hz, hcell, hwz⟩⟩
  obtain ⟨l, rfl, hr, hm, hw, hc⟩ := ReadsInt.ofRowC w0
  exact ⟨a, cap, l, rfl, hc, Kd.C_of_reads (d := (0 : Int)) (h1 := fun _ => rfl) hr, hw⟩
/-- all numbers of a footer are ones -/
def wfS (x : S30) : Prop := (Lit.int .i64 x.f0).wf = true ∧ (Lit.int .i64 x.f1).wf = true ∧ (Lit.int .i64 x.f2).wf = true ∧ (Lit.int .i64 x.f3).wf = true ∧ (Lit.int .i64 x.f4).wf = true ∧ (Lit.int .i64 x.f5).wf = true ∧ (Lit.int .i64 x.f6).wf = true ∧ ∀ z ∈ x.f7, (Lit.int .i64 z).wf = true
theorem choose_list {α : Type} (Q : Nat → α → Prop) : ∀ n, (∀ i, i < n → ∃ x, Q i x) → ∃ l : List α, l.length = n ∧ ∀ i x, l[i]? = some x → Q i x
  | 0, _ => ⟨[], rfl, fun i x h => by simp at h⟩
  | n + 1, h => by
    obtain ⟨l, hl, hq⟩ := choose_list Q n (fun i hi => h i (by omega))
    obtain ⟨x, hx⟩ := h n (by omega)
    refine ⟨l ++ [x], by simp [hl], fun i y hy => ?_⟩
    rcases Nat.lt_trichotomy i n with hi | hi | hi
    · rw [List.getElem?_append_left (by omega)] at hy
      exact hq i y hy
    · subst hi
      rw [List.getElem?_append_right (by omega), hl] at hy
      simp at hy
      exact hy ▸ hx
    · rw [List.getElem?_eq_none (by simp; omega)] at hy
      cases hy
/-- a slice of footers that came in -/
theorem open_rows25 {v : Value} {d : DataW H} {p : List MemPlace} (hv : ∃ a len cap, v = .slice a len cap) (h : DataW.Trod enc Try.prog w 0 (fun _ => true) true 25 v d p) :
    ∃ (A : Option Addr) (c : Nat) (l : List S30), v = .slice A l.length c ∧ k30.C w A l.length l ∧ l.length ≤ c ∧ ∀ x ∈ l, wfS x := by
  obtain ⟨a, len, cap, rfl⟩ := hv
  obtain ⟨fuel, hf⟩ := h
  rcases open_slice_fields Try.underlying25 Try.underlying30 (by kernel_rfl) (by kernel_rfl) hf with ⟨hcs, _⟩ | ⟨x, l, c, m, D, Pl, hcs, _, hl, hm, hmm, _, hi⟩
  · simp [Value.cells] at hcs
    obtain ⟨rfl, rfl, rfl⟩ := hcs
    exact ⟨none, 0, [], rfl, ⟨rfl, by simp, fun h => by simp at h⟩, Nat.le_refl _, fun x hx => by cases hx⟩
  · simp [Value.cells] at hcs
    obtain ⟨rfl, rfl, rfl⟩ := hcs
    simp only [if_true] at hmm
    subst hmm
    obtain ⟨xs, hxl, hxs⟩ := choose_list (fun i (s : S30) => wfS s ∧ ∃ cs, cs.length = 8 ∧ k30.K w s cs ∧ ∀ j u, cs[j]? = some u → w.cell? (x.add (i * 8 + j)) = some u) len (fun i hil => by
      obtain ⟨ys, n, _, _, _, hfld⟩ := hi i (by omega)
      obtain ⟨v0, y0, c0, _, t0⟩ := hfld 0 _ rfl
      obtain ⟨v1, y1, c1, _, t1⟩ := hfld 1 _ rfl
      obtain ⟨v2, y2, c2, _, t2⟩ := hfld 2 _ rfl
      obtain ⟨v3, y3, c3, _, t3⟩ := hfld 3 _ rfl
      obtain ⟨v4, y4, c4, _, t4⟩ := hfld 4 _ rfl
      obtain ⟨v5, y5, c5, _, t5⟩ := hfld 5 _ rfl
      obtain ⟨v6, y6, c6, _, t6⟩ := hfld 6 _ rfl
      obtain ⟨v7, y7, c7, _, t7⟩ := hfld 7 _ rfl
      obtain ⟨a0, rfl, w0⟩ := foot_int t0
      obtain ⟨a1, rfl, w1⟩ := foot_int t1
      obtain ⟨a2, rfl, w2⟩ := foot_int t2
      obtain ⟨a3, rfl, w3⟩ := foot_int t3
      obtain ⟨a4, rfl, w4⟩ := foot_int t4
      obtain ⟨a5, rfl, w5⟩ := foot_int t5
      obtain ⟨a6, rfl, w6⟩ := foot_int t6
      obtain ⟨A7, cc, l7, rfl, hc7, hC7, w7⟩ := foot_ints t7
      refine ⟨⟨a0, a1, a2, a3, a4, a5, a6, l7⟩, ⟨w0, w1, w2, w3, w4, w5, w6, w7⟩, _, rfl, k30_mk w ⟨a0, a1, a2, a3, a4, a5, a6, l7⟩ hc7 hC7, fun j u hj => ?_⟩
      match j, hj with
      | 0, hj => injection hj with hj; subst hj; exact c0
      | 1, hj => injection hj with hj; subst hj; exact c1
      | 2, hj => injection hj with hj; subst hj; exact c2
      | 3, hj => injection hj with hj; subst hj; exact c3
      | 4, hj => injection hj with hj; subst hj; exact c4
      | 5, hj => injection hj with hj; subst hj; exact c5
      | 6, hj => injection hj with hj; subst hj; exact c6
      | 7, hj => injection hj with hj; subst hj; exact c7
      | n + 8, hj => simp at hj)
    have hmx : maxLen ≤ 9223372036854775807 := by decide
    refine ⟨some x, m, xs, by rw [hxl], ⟨rfl, by rw [hxl]; omega, fun _ => ⟨x, rfl, fun j p hj => ?_⟩⟩, by omega, fun s hs => ?_⟩
    · obtain ⟨_, cs, h1, h2, h3⟩ := hxs j p hj
      exact ⟨cs, h1, h2, h3⟩
    · obtain ⟨j, hj⟩ := List.getElem?_of_mem hs
      exact (hxs j s hj).1
end
end Go.Proofs.Ythjfffgddegmoaa.G
namespace Go.Proofs.Ythjfffgddegmoaa.PA
open Go.RowKit Go.Proofs.Ythjfffgddegmoaa.G Go.Proofs.YthjfffgddegmoaaW.PrintWords Go.Proofs.YthjfffgddegmoaaW.PrintLast Go.Proofs.YthjfffgddegmoaaW.PrintMore
set_option linter.unusedVariables false
set_option linter.unusedSimpArgs false
theorem N_sortable {w : World} {base : Nat} {v : Value} {xs : List S30} (h : Kd.N k30 30 w base (fun _ => True) v xs) :
    (v = .slice none 0 0 ∧ xs = []) ∨ ∃ (g cap : Nat) (d : Array E), v = .slice (some ⟨g, 0, none⟩) d.size cap ∧ d.size ≤ cap ∧ base ≤ g ∧ g < w.heap.size ∧ d.toList.map (·.x) = xs ∧ Sort.HoldsK encE 8 w g 0 d ∧ ∀ e ∈ d.toList, Kd.FK k30 w (fun q => q ≠ g) e.x (encE e) := by
  obtain ⟨_, rows, hlr, ⟨_, inner, ho, hrep⟩, hf⟩ := h
  obtain ⟨hil, ho⟩ := ho
  rcases ho with ⟨rfl, hn⟩ | ⟨g, cap, cur, rfl, hb, hg, hnc, hcm, hcs, htk⟩
  · exact .inl ⟨rfl, List.eq_nil_of_length_eq_zero (by omega)⟩
  · refine .inr ?_
    have hsz : (Kd.raw k30.sz).sz = 8 := rfl
    obtain ⟨es, hel, hes⟩ := choose_list (fun i (e : E) => xs[i]? = some e.x ∧ rows[i]? = some (encE e) ∧ Kd.FK k30 w (fun q => q ≠ g) e.x (encE e)) rows.length (fun i hi => by
      have hx : xs[i]? = some (xs[i]'(by omega)) := List.getElem?_eq_getElem (by omega)
      have hr : rows[i]? = some rows[i] := List.getElem?_eq_getElem hi
      have hk := hf i _ _ hx hr
      obtain ⟨A7, c7, hc, l7, g7⟩ := k30_openF hk
      refine ⟨⟨xs[i]'(by omega), A7, c7⟩, hx, by rw [hr, hc]; rfl, ?_⟩
      have := Kd.FK_mono hk (ok' := fun q => q ≠ g) (fun k hk => by rintro rfl; exact hk.2 rfl)
      rw [hc] at this
      exact this)
    refine ⟨g, cap, es.toArray, by simp [hel], by simp; omega, hb, blk_lt hg, ?_, fun j hj => ?_, fun e he => ?_⟩
    · refine List.ext_getElem? fun i => ?_
      rw [List.getElem?_map]
      rcases Nat.lt_or_ge i es.length with hi | hi
      · rw [show (es.toArray.toList)[i]? = some es[i] from by simp [List.getElem?_eq_getElem hi], (hes i _ (List.getElem?_eq_getElem hi)).1]
        rfl
      · rw [List.getElem?_eq_none (by simpa using hi), List.getElem?_eq_none (by omega)]
        rfl
    · rw [Sort.size_flatK] at hj
      have hj' : j < es.length * 8 := by simpa using hj
      have hq : j / 8 < es.length := by omega
      refine ⟨?_, blk_frozen hg _⟩
      rw [Sort.get_flatK _ _ _ _ hj, blk_cell hg, Nat.zero_add]
      have hr := (hes (j / 8) _ (List.getElem?_eq_getElem hq)).2.1
      have hm := hrep.2 (j / 8) _ hr
      have hm' : (inner.drop (j / 8 * 8)).take 8 = encE es[j / 8] := hm.1
      have h8 : (encE es[j / 8]).length = 8 := rfl
      have e1 : inner[j]? = (encE es[j / 8])[j % 8]? := by
        rw [← hm', List.getElem?_take, if_pos (by omega), List.getElem?_drop, show j / 8 * 8 + j % 8 = j from by omega]
      have e2 : cur[j]? = inner[j]? := by
        rw [← htk, List.getElem?_take, if_pos (by rw [hsz]; omega)]
        simp
      rw [e2, e1, show (es.toArray)[j / 8]! = es[j / 8] from by simp [hq], List.getElem?_eq_getElem (by omega)]
      simp [h8, Nat.mod_lt]
    · obtain ⟨i, hi, rfl⟩ := List.mem_iff_getElem.1 he
      have hi' : i < es.length := by simpa using hi
      exact (hes i _ (by simp)).2.2
theorem sort_heap (w : World) (g m : Nat) (d : Array E) (os : Array Obj) (k : Nat) (hk : k ≠ g) (hlt : k < w.heap.size) : (sortWorldK encE 8 w g 0 m d os).heap[k]? = w.heap[k]? := by
  unfold sortWorldK Sort.putRowK
  rw [Sort.heap_grow_old _ _ (by simp; exact hlt)]
  show (Sort.mapBlock _ g _).heap[k]? = _
  unfold Sort.mapBlock
  simp [Array.getElem?_modify, Sort.ahead, Ne.symm hk]
theorem sort_below (w : World) (b g m : Nat) (d : Array E) (os : Array Obj) (hb : b ≤ g) (hs : b ≤ w.heap.size) : Below b w (sortWorldK encE 8 w g 0 m d os) :=
  ⟨rfl, rfl, rfl, by unfold sortWorldK Sort.putRowK Sort.grow; simp [Sort.ahead], fun k hk => sort_heap w g m d os k (by omega) (by omega)⟩
theorem sorted_reads (w : World) (g m : Nat) (d d' : Array E) (os : Array Obj) (hg : g < w.heap.size) (hH : Sort.HoldsK encE 8 w g 0 d) (hs : d'.size = d.size) (hm : ∀ e ∈ d'.toList, e ∈ d.toList) (hle : d.size ≤ 1000)
    (hF : ∀ e ∈ d.toList, Kd.FK k30 w (fun q => q ≠ g) e.x (encE e)) : Kd.C k30 (sortWorldK encE 8 w g 0 m d' os) (some ⟨g, 0, none⟩) d.size (d'.toList.map (·.x)) := by
  have hK := holdsK_sortWorldK_c encE 8 w g 0 d d' m os hH hg hs
  refine ⟨by simp [hs], by omega, fun _ => ⟨⟨g, 0, none⟩, rfl, fun j p hj => ?_⟩⟩
  rw [List.getElem?_map] at hj
  obtain ⟨e, he, rfl⟩ := Option.map_eq_some_iff.1 hj
  have hjl : j < d'.size := by
    have := (List.getElem?_eq_some_iff.1 he).1
    simpa using this
  have hed : d'[j]! = e := by
    have := (List.getElem?_eq_some_iff.1 he).2
    simp [hjl]
    simpa using this
  refine ⟨encE e, rfl, ?_, fun i u hu => ?_⟩
  · have hfk := hF e (hm e (List.mem_of_getElem? he))
    exact Kd.FK_now (Kd.FK_step hfk (fun k hk hlt => sort_heap w g m d' os k hk hlt))
  · have hi : i < 8 := by
      rcases Nat.lt_or_ge i 8 with q | q
      · exact q
      · rw [List.getElem?_eq_none (show (encE e).length ≤ i from q)] at hu; cases hu
    have hc := (hK (j * 8 + i) (by rw [Sort.size_flatK]; omega)).1
    rw [Sort.get_flatK _ _ _ _ (by omega), show (j * 8 + i) / 8 = j from by omega, show (j * 8 + i) % 8 = i from by omega, hed] at hc
    have hu' : (encE e)[i]! = u := by
      rw [List.getElem!_eq_getElem?_getD, hu]
      rfl
    rw [hu', Nat.zero_add] at hc
    have ha : Addr.add ⟨g, 0, none⟩ (j * 8 + i) = ⟨g, j * 8 + i, none⟩ := by
      unfold Addr.add
      simp
      omega
    show World.cell? _ (Addr.add ⟨g, 0, none⟩ (j * 8 + i)) = some u
    rw [ha]
    exact hc
end Go.Proofs.Ythjfffgddegmoaa.PA
namespace Go.Proofs.Ythjfffgddegmoaa.PA
open Go.Sort
set_option linter.unusedVariables false
set_option linter.unusedSimpArgs false
/-- where x goes, looking down from place j -/
def posE (l : List S30) (x : S30) : Nat → Nat
  | 0 => 0
  | j + 1 => if x.f3 < (l.getD j z30).f3 then posE l x j else j + 1
def insS (l : List S30) (x : S30) : List S30 := l.take (posE l x l.length) ++ x :: l.drop (posE l x l.length)
def sortS : List S30 → List S30 → List S30
  | acc, [] => acc
  | acc, x :: r => sortS (insS acc x) r
theorem posE_le (l : List S30) (x : S30) : ∀ j, posE l x j ≤ j
  | 0 => Nat.le_refl _
  | j + 1 => by
    rw [posE]
    split
    · exact Nat.le_succ_of_le (posE_le l x j)
    · exact Nat.le_refl _
def posX (l : List E) (x : E) : Nat → Nat
  | 0 => 0
  | j + 1 => if x.x.f3 < (l[j]!).x.f3 then posX l x j else j + 1
def insX (l : List E) (x : E) : List E := l.take (posX l x l.length) ++ x :: l.drop (posX l x l.length)
def sortX : List E → List E → List E
  | acc, [] => acc
  | acc, x :: r => sortX (insX acc x) r
theorem posX_le (l : List E) (x : E) : ∀ j, posX l x j ≤ j
  | 0 => Nat.le_refl _
  | j + 1 => by
    rw [posX]
    split
    · exact Nat.le_succ_of_le (posX_le l x j)
    · exact Nat.le_refl _
theorem insX_length (l : List E) (x : E) : (insX l x).length = l.length + 1 := by
  have := posX_le l x l.length
  simp [insX]
  omega
theorem lt_iff (a b : E) : ltOf cfE a b = decide (a.x.f3 < b.x.f3) := by
  unfold ltOf cfE cmpI
  by_cases h : a.x.f3 < b.x.f3
  · simp [h]
  · by_cases h2 : b.x.f3 < a.x.f3
    · simp [h, h2]
    · simp [h, h2]
theorem inner_eq (l : List E) (x : E) (r : List E) : ∀ j, j ≤ l.length → insInner (ltOf cfE) 0 j (l.take j ++ x :: (l.drop j ++ r)).toArray = (l.take (posX l x j) ++ x :: (l.drop (posX l x j) ++ r)).toArray
  | 0, _ => rfl
  | j + 1, h => by
    have hj : j < l.length := by omega
    have e1 : (l.take (j + 1) ++ x :: (l.drop (j + 1) ++ r)).toArray[j + 1]! = x := by
      simp [List.getElem?_append_right, Nat.min_eq_left h]
    have e2 : (l.take (j + 1) ++ x :: (l.drop (j + 1) ++ r)).toArray[j]! = l[j]! := by
      simp [List.getElem?_append_left, Nat.min_eq_left h, hj]
    rw [insInner, e1, e2, lt_iff, posX]
    by_cases hl : x.x.f3 < (l[j]!).x.f3
    · rw [if_pos hl, if_pos (by rw [Bool.and_eq_true]; exact ⟨decide_eq_true (by omega), decide_eq_true hl⟩)]
      rw [← inner_eq l x r j (by omega)]
      congr 1
      unfold swp
      rw [e1, e2]
      rw [List.take_succ_eq_append_getElem hj, List.drop_eq_getElem_cons hj]
      have ht : (l.take j).length = j := by simp; omega
      have hlj : l[j]! = l[j] := by simp [hj]
      rw [hlj]
      apply Array.ext'
      simp only [Array.toList_setIfInBounds, List.append_assoc, List.cons_append, List.nil_append]
      rw [List.set_append_right _ _ (by omega), List.set_append_right _ _ (by omega), ht]
      simp
    · rw [if_neg hl, if_neg (by rw [decide_eq_false hl]; simp)]
theorem outer_eq : ∀ (r acc : List E), insOuter (ltOf cfE) 0 (acc.length + r.length) acc.length (acc ++ r).toArray = (sortX acc r).toArray
  | [], acc => by
    rw [insOuter, if_neg (by simp), List.append_nil]
    rfl
  | x :: r, acc => by
    rw [insOuter, if_pos (by simp)]
    have h := inner_eq acc x r acc.length (Nat.le_refl _)
    rw [List.take_length, List.drop_length, List.nil_append] at h
    rw [h]
    have h2 := outer_eq r (insX acc x)
    rw [insX_length] at h2
    rw [sortX, ← h2, List.length_cons, show acc.length + (r.length + 1) = acc.length + 1 + r.length from by omega]
    unfold insX
    rw [List.append_assoc, List.cons_append]
theorem sortE_eq (l : List E) : (sortE l.toArray).toList = sortX [] l := by
  unfold sortE insertionSort
  rcases l with _ | ⟨x, r⟩
  · rw [insOuter, if_neg (by simp)]
    rfl
  · have h := outer_eq r [x]
    simp only [List.length_cons, List.length_nil, List.cons_append, List.nil_append] at h
    rw [show (x :: r).toArray.size = 0 + 1 + r.length from by simp; omega, h]
    rfl
theorem posX_map (l : List E) (x : E) : ∀ j, j ≤ l.length → posX l x j = posE (l.map (·.x)) x.x j
  | 0, _ => rfl
  | j + 1, h => by
    have hj : j < l.length := by omega
    rw [posX, posE, posX_map l x j (by omega), show (l[j]!).x = (l.map (·.x)).getD j z30 from by simp [hj]]
theorem insX_map (l : List E) (x : E) : (insX l x).map (·.x) = insS (l.map (·.x)) x.x := by
  unfold insX insS
  rw [List.length_map, ← posX_map l x _ (Nat.le_refl _), List.map_append, List.map_cons, List.map_take, List.map_drop]
theorem sortX_map : ∀ (r acc : List E), (sortX acc r).map (·.x) = sortS (acc.map (·.x)) (r.map (·.x))
  | [], acc => rfl
  | x :: r, acc => by rw [sortX, sortX_map r, insX_map, List.map_cons, sortS]
theorem sortE_map (d : Array E) : (sortE d).toList.map (·.x) = sortS [] (d.toList.map (·.x)) := by
  have h := sortE_eq d.toList
  rw [show d.toList.toArray = d from by simp] at h
  rw [h, sortX_map]
  rfl
theorem insX_mem (l : List E) (x e : E) : e ∈ insX l x ↔ e = x ∨ e ∈ l := by
  unfold insX
  rw [List.mem_append, List.mem_cons]
  constructor
  · rintro (h | h | h)
    · exact .inr (List.mem_of_mem_take h)
    · exact .inl h
    · exact .inr (List.mem_of_mem_drop h)
  · rintro (h | h)
    · exact .inr (.inl h)
    · rw [← List.take_append_drop (posX l x l.length) l, List.mem_append] at h
      rcases h with h | h
      · exact .inl h
      · exact .inr (.inr h)
theorem sortX_mem (e : E) : ∀ (r acc : List E), e ∈ sortX acc r ↔ e ∈ acc ∨ e ∈ r
  | [], acc => by simp [sortX]
  | x :: r, acc => by
    rw [sortX, sortX_mem e r, insX_mem, List.mem_cons]
    constructor
    · rintro ((h | h) | h) <;> simp [h]
    · rintro (h | h | h) <;> simp [h]
theorem sortX_length : ∀ (r acc : List E), (sortX acc r).length = acc.length + r.length
  | [], acc => rfl
  | x :: r, acc => by rw [sortX, sortX_length r, insX_length, List.length_cons]; omega
theorem sortE_size (d : Array E) : (sortE d).size = d.size := by
  have h := sortE_eq d.toList
  rw [show d.toList.toArray = d from by simp] at h
  have := congrArg List.length h
  rw [sortX_length] at this
  simpa using this
theorem sortE_mem (d : Array E) (e : E) (h : e ∈ (sortE d).toList) : e ∈ d.toList := by
  have h2 := sortE_eq d.toList
  rw [show d.toList.toArray = d from by simp] at h2
  rw [h2, sortX_mem] at h
  rcases h with h | h
  · cases h
  · exact h
end Go.Proofs.Ythjfffgddegmoaa.PA
namespace Go.Proofs.Ythjfffgddegmoaa.PA
open Go.RowKit Go.Proofs.Ythjfffgddegmoaa.G Go.Proofs.YthjfffgddegmoaaW.PrintWords Go.Proofs.YthjfffgddegmoaaW.PrintLast Go.Proofs.YthjfffgddegmoaaW.PrintMore
set_option linter.unusedVariables false
set_option linter.unusedSimpArgs false
/-- a block counts -/
def keepB (l : List S30) (gen floor : Int) (i : Nat) (x : S30) : Bool := decide (x.f1 ≤ gen) && (decide (floor ≤ x.f5) || decide (x.f6 = 0)) && !kid gen x.f0 i l 0
def keepG (l : List S30) (gen floor : Int) : List S30 → Nat → List S30
  | [], _ => []
  | x :: r, i => if keepB l gen floor i x = true then x :: keepG l gen floor r (i + 1) else keepG l gen floor r (i + 1)
theorem keepG_append (l : List S30) (gen floor : Int) : ∀ (xs ys : List S30) (i : Nat), keepG l gen floor (xs ++ ys) i = keepG l gen floor xs i ++ keepG l gen floor ys (i + xs.length)
  | [], ys, i => rfl
  | x :: xs, ys, i => by
    rw [List.cons_append, keepG, keepG, keepG_append l gen floor xs ys (i + 1), List.length_cons, Nat.add_right_comm, ← Nat.add_assoc]
    split <;> simp
theorem keepG_take (l : List S30) (gen floor : Int) (k : Nat) (hk : k < l.length) : keepG l gen floor (l.take (k + 1)) 0 = keepG l gen floor (l.take k) 0 ++ if keepB l gen floor k (rd_T30 l (k : Int)) = true then [rd_T30 l (k : Int)] else [] := by
  rw [List.take_succ_eq_append_getElem hk, keepG_append, List.length_take, Nat.min_eq_left (by omega), Nat.zero_add, rd_nat l k hk, keepG, keepG]
theorem keepG_len (l : List S30) (gen floor : Int) : ∀ (xs : List S30) (i : Nat), (keepG l gen floor xs i).length ≤ xs.length
  | [], _ => Nat.le_refl _
  | x :: r, i => by
    have := keepG_len l gen floor r (i + 1)
    rw [keepG]
    split <;> simp only [List.length_cons] <;> omega
/-- the blocks that count, by rank -/
def liveL (l : List S30) (gen floor : Int) : List S30 := sortS [] (keepG l gen floor l 0)
set_option maxHeartbeats 4000000 in
set_option maxRecDepth 100000 in
theorem plan_Live.calls (A0 : Option Addr) (c0 : Nat) (l : List S30) (gen floor : Int) (w : World) (hr0 : Kd.C k30 w A0 l.length l) (hlen : l.length ≤ 14) (hp : ∀ x ∈ l, x.f7.length ≤ 17592186044415) :
    Calls Try.prog 29 #[.slice A0 l.length c0, .int .i64 gen, .int .i64 floor] w fun e w' => ∃ (A : Option Addr) (c : Nat), e = .returned (.slice A (liveL l gen floor).length c) ∧ (liveL l gen floor).length ≤ c ∧ Kd.C k30 w' A (liveL l gen floor).length (liveL l gen floor) ∧ Below w.heap.size w w' := by
  have HR := Aside0.mk hr0
  have HP := Aside0.mk hp
  have HLEN := Aside0.mk hlen
  clear hr0 hp hlen
  go_enter Try.func29, Try.ntmps29
  go_wp2_with (first | go_in)
  have hGL := blk_alloc (blk_new w (.cells #[.slice A0 l.length c0] 25 (0, 0))) (.cells #[.int .i64 gen] 3 (0, 0))
  have hGG := blk_new (w.alloc (.cells #[.slice A0 l.length c0] 25 (0, 0))) (.cells #[.int .i64 gen] 3 (0, 0))
  have hB0 := below_alloc (below_alloc (Below.refl w.heap.size w) (.cells #[.slice A0 l.length c0] 25 (0, 0))) (.cells #[.int .i64 gen] 3 (0, 0))
  have hs1 : (w.alloc (.cells #[.slice A0 l.length c0] 25 (0, 0))).heap.size = w.heap.size + 1 := by simp
  rw [hs1] at hGG
  have HGL := Aside0.mk hGL
  have HGG := Aside0.mk hGG
  have HB0 := Aside0.mk hB0
  have HR1 := Aside0.mk (Kd.C_below HR.out hB0)
  clear hs1 hGL hGG hB0
  generalize (w.alloc (.cells #[.slice A0 l.length c0] 25 (0, 0))).alloc (.cells #[.int .i64 gen] 3 (0, 0)) = W0 at HGL HGG HB0 HR1 ⊢
  go_loopw [8, 14] (fun v i wr => ∃ k : Nat, k ≤ l.length ∧ i = .int .i64 k ∧ Aside0 (Kd.N k30 30 wr W0.heap.size (fun _ => True) v (keepG l gen floor (l.take k) 0)) ∧ Aside0 (Below W0.heap.size W0 wr)) (fun _ i _ => l.length - (intOf i).toNat)
  case atStart => exact ⟨0, Nat.zero_le _, rfl, ⟨Kd.N_nil _ _ _ _ _⟩, ⟨Below.refl _ _⟩⟩
  case round =>
    obtain ⟨k, hk, rfl, HN, HB⟩ := hrel
    by_cases hlt : k < l.length
    · have hC := Kd.C_below HR1.out HB.out
      have hl14 := HLEN.out
      obtain ⟨ad, A7, c7, rfl, h0, h1, h2, h3, h4, h5, h6, h7, l7, g7⟩ := at_T30 hC (k : Int) (by omega) (by omega)
      rw [Int.toNat_natCast] at h0 h1 h2 h3 h4 h5 h6 h7
      have HST := Aside0.mk (keepG_take l gen floor k hlt)
      have HP7 : Aside0 ((rd_T30 l (k : Int)).f7.length ≤ 17592186044415) := ⟨HP.out _ (by rw [rd_nat l k hlt]; exact List.getElem_mem hlt)⟩
      have HKL : Aside0 ((keepG l gen floor (l.take k) 0).length ≤ 14) := ⟨by have := keepG_len l gen floor (l.take k) 0; rw [List.length_take] at this; omega⟩
      have HKL2 := Aside0.mk hlt
      have G7 := Aside0.mk g7
      have L7 := Aside0.mk l7
      have hgl := (HB.out.block w.heap.size (blk_lt HGL.out)).trans HGL.out
      have hgg := (HB.out.block (w.heap.size + 1) (blk_lt HGG.out)).trans HGG.out
      have hcg := blk_cell hgg 0
      have HKD := Aside0.mk (children.calls (some ad) c0 l gen k w.heap.size (w.heap.size + 1) (wr.alloc (.cells #[.int .i64 (rd_T30 l (k : Int)).f0, .int .i64 (rd_T30 l (k : Int)).f1, .int .i64 (rd_T30 l (k : Int)).f2, .int .i64 (rd_T30 l (k : Int)).f3, .int .i64 (rd_T30 l (k : Int)).f4, .int .i64 (rd_T30 l (k : Int)).f5, .int .i64 (rd_T30 l (k : Int)).f6, .slice A7 (rd_T30 l (k : Int)).f7.length c7] 30 (0, 0))) (Kd.C_alloc hC _) (by omega) hlt (fun x hx => Nat.le_succ_of_le (HP.out x hx)) (blk_alloc hgl _) (blk_alloc hgg _))
      clear hC g7 l7 hgl hgg
      generalize rd_T30 l (k : Int) = x at h0 h1 h2 h3 h4 h5 h6 h7 HST HP7 G7 L7 HKD
      have HB1 := Aside0.mk (below_alloc HB.out (.cells #[.int .i64 x.f0, .int .i64 x.f1, .int .i64 x.f2, .int .i64 x.f3, .int .i64 x.f4, .int .i64 x.f5, .int .i64 x.f6, .slice A7 x.f7.length c7] 30 (0, 0)))
      have HN1 := Aside0.mk (Kd.N_alloc HN.out (.cells #[.int .i64 x.f0, .int .i64 x.f1, .int .i64 x.f2, .int .i64 x.f3, .int .i64 x.f4, .int .i64 x.f5, .int .i64 x.f6, .slice A7 x.f7.length c7] 30 (0, 0)))
      have HX := Aside0.mk (blk_new wr (.cells #[.int .i64 x.f0, .int .i64 x.f1, .int .i64 x.f2, .int .i64 x.f3, .int .i64 x.f4, .int .i64 x.f5, .int .i64 x.f6, .slice A7 x.f7.length c7] 30 (0, 0)))
      have hx1 := blk_cell HX.out 1
      have hx5 := blk_cell HX.out 5
      have hx6 := blk_cell HX.out 6
      have hx7 := blk_cell HX.out 7
      have hcg' := cell_alloc_old (.cells #[.int .i64 x.f0, .int .i64 x.f1, .int .i64 x.f2, .int .i64 x.f3, .int .i64 x.f4, .int .i64 x.f5, .int .i64 x.f6, .slice A7 x.f7.length c7] 30 (0, 0)) hcg
      by_cases hg1 : x.f1 ≤ gen
      · have d1 : decide (gen < x.f1) = false := decide_eq_false (by omega)
        cases hkd : kid gen x.f0 k l 0 with
        | true =>
          rw [hkd] at HKD
          have HF : Aside0 (keepB l gen floor k x = false) := ⟨by simp [keepB, hkd]⟩
          clear hkd
          by_cases hg3 : floor ≤ x.f5
          · have d2 : decide (x.f5 < floor) = false := decide_eq_false (by omega)
            clear hg1 hg3
            go_wp2_with (first | (go_at_call 41; go_must (refine HKD.out.mono ?_; rintro e w5 ⟨rfl, hb⟩; have HB5 := Aside0.mk (below_step HB1.out hb); have HN5 := Aside0.mk (Kd.N_below HN1.out hb); have HX5 := Aside0.mk (blk_below HX.out hb); have G75 := Aside0.mk (Kd.C_below (Kd.C_alloc G7.out _) hb); have HW5 := Aside0.mk (below_step (below_alloc (Below.refl wr.heap.size wr) _) hb); have hx5c := blk_cell HX5.out 7; clear hb)))
            go_roundw
            case rel => exact ⟨k + 1, by omega, by go_num, ⟨by rw [HST.out, if_neg (by rw [HF.out]; simp), List.append_nil]; exact HN5.out⟩, HB5⟩
            case measure => simp [intOf]; omega
          · have d2 : decide (x.f5 < floor) = true := decide_eq_true (by omega)
            by_cases hg4 : x.f6 = 0
            · have d3 : (x.f6 != 0) = false := bne_eq_false_iff_eq.2 hg4
              clear hg1 hg3 hg4
              go_wp2_with (first | (go_at_call 41; go_must (refine HKD.out.mono ?_; rintro e w5 ⟨rfl, hb⟩; have HB5 := Aside0.mk (below_step HB1.out hb); have HN5 := Aside0.mk (Kd.N_below HN1.out hb); have HX5 := Aside0.mk (blk_below HX.out hb); have G75 := Aside0.mk (Kd.C_below (Kd.C_alloc G7.out _) hb); have HW5 := Aside0.mk (below_step (below_alloc (Below.refl wr.heap.size wr) _) hb); have hx5c := blk_cell HX5.out 7; clear hb)))
              go_roundw
              case rel => exact ⟨k + 1, by omega, by go_num, ⟨by rw [HST.out, if_neg (by rw [HF.out]; simp), List.append_nil]; exact HN5.out⟩, HB5⟩
              case measure => simp [intOf]; omega
            · have d3 : (x.f6 != 0) = true := bne_iff_ne.2 hg4
              clear hg1 hg3 hg4
              go_wp2
              go_roundw
              case rel => exact ⟨k + 1, by omega, by go_num, ⟨by rw [HST.out, if_neg (by rw [HF.out]; simp), List.append_nil]; exact HN1.out⟩, HB1⟩
              case measure => simp [intOf]; omega
        | false =>
          rw [hkd] at HKD
          by_cases hg3 : floor ≤ x.f5
          · have d2 : decide (x.f5 < floor) = false := decide_eq_false (by omega)
            have HF : Aside0 (keepB l gen floor k x = true) := ⟨by simp [keepB, hkd, hg1, hg3]⟩
            clear hg1 hg3 hkd
            go_wp2_with (first | (go_at_call 41; go_must (refine HKD.out.mono ?_; rintro e w5 ⟨rfl, hb⟩; have HB5 := Aside0.mk (below_step HB1.out hb); have HN5 := Aside0.mk (Kd.N_below HN1.out hb); have HX5 := Aside0.mk (blk_below HX.out hb); have G75 := Aside0.mk (Kd.C_below (Kd.C_alloc G7.out _) hb); have HW5 := Aside0.mk (below_step (below_alloc (Below.refl wr.heap.size wr) _) hb); have hx5c := blk_cell HX5.out 7; clear hb)) | (go_at_call 42; go_must (refine (cloneI.calls A7 c7 x.f7 _ G75.out L7.out HP7.out).mono ?_; rintro e w6 ⟨v6, rfl, hr6, hb6⟩; obtain ⟨A9, c9, rfl⟩ := Kd.R_slice hr6; have HR6 := Aside0.mk (Kd.R_mono (ok' := fun q => w5.heap.size ≤ q) (Kd.R_bound hr6) (fun q hq => hq.2.1)); have HB6 := Aside0.mk (below_step HB5.out hb6); have HN6 := Aside0.mk (Kd.N_below (Kd.N_bound HN.out) (below_step HW5.out hb6)); have HX6 := Aside0.mk (blk_below HX5.out hb6); have hx6_0 := blk_cell HX6.out 0; have hx6_1 := blk_cell HX6.out 1; have hx6_2 := blk_cell HX6.out 2; have hx6_3 := blk_cell HX6.out 3; have hx6_4 := blk_cell HX6.out 4; have hx6_5 := blk_cell HX6.out 5; have hx6_6 := blk_cell HX6.out 6; have hx6_7 := blk_cell HX6.out 7; have hf6_7 := blk_frozen HX6.out 7; clear hr6 hb6)) | ((with_reducible refine gate_dst (N := 46) rfl ?_); go_must (refine Kd.N_append (w0 := W0) k30 W0.heap.size rfl (.tmp 43) (.tmp 45) 25 30 _ 80 rfl Try.underlying25 info30 rfl (by decide) (by decide) u8 (keepG l gen floor (l.take k) 0) x [.int .i64 x.f0, .int .i64 x.f1, .int .i64 x.f2, .int .i64 x.f3, .int .i64 x.f4, .int .i64 x.f5, .int .i64 x.f6, .slice A9 x.f7.length c9] (fun _ => True) (fun q => w5.heap.size ≤ q) rfl ?hx (k30_mkF _ _ x (Kd.R_reads' HR6.out).2.1 (Kd.R_F (Kd.R_far HR6.out (fun q hq => ?hq1) _))) ?hokp (fun _ _ => trivial) (Kd.N_mono (Kd.N_far HN6.out (fun q hq => ?hq2) _) (fun _ _ => trivial)) (below_set HB6.out HB.out.size) ?hb ?hl ?_); (case hx => (refine (Eq.trans (b := Value.slice (some ⟨w6.heap.size, 0, none⟩) 1 1) rfl ?_); simp)); (case hq1 => (have := blk_lt HX5.out; show q ≠ wr.heap.size; omega)); (case hq2 => (have := hq.2; show q ≠ wr.heap.size; omega)); (case hokp => (intro q hq; refine ⟨trivial, fun he => ?_⟩; have := Kd.N_lt HN.out q he.symm; have := blk_lt HX5.out; omega)); (case hb => (have := HB6.out.size; simp; omega)); (case hl => (have := HKL.out; omega)); intro v4 w4 hN4 hB4 hg4 ho4; have HN4 := Aside0.mk hN4; have HB4 := Aside0.mk hB4; clear hN4 hB4 hg4 ho4))
            go_roundw
            case rel => exact ⟨k + 1, by omega, by go_num, ⟨by rw [HST.out, if_pos HF.out]; exact HN4.out⟩, HB4⟩
            case measure => simp [intOf]; omega
          · have d2 : decide (x.f5 < floor) = true := decide_eq_true (by omega)
            by_cases hg4 : x.f6 = 0
            · have d3 : (x.f6 != 0) = false := bne_eq_false_iff_eq.2 hg4
              have HF : Aside0 (keepB l gen floor k x = true) := ⟨by simp [keepB, hkd, hg1, hg4]⟩
              clear hg1 hg3 hg4 hkd
              go_wp2_with (first | (go_at_call 41; go_must (refine HKD.out.mono ?_; rintro e w5 ⟨rfl, hb⟩; have HB5 := Aside0.mk (below_step HB1.out hb); have HN5 := Aside0.mk (Kd.N_below HN1.out hb); have HX5 := Aside0.mk (blk_below HX.out hb); have G75 := Aside0.mk (Kd.C_below (Kd.C_alloc G7.out _) hb); have HW5 := Aside0.mk (below_step (below_alloc (Below.refl wr.heap.size wr) _) hb); have hx5c := blk_cell HX5.out 7; clear hb)) | (go_at_call 42; go_must (refine (cloneI.calls A7 c7 x.f7 _ G75.out L7.out HP7.out).mono ?_; rintro e w6 ⟨v6, rfl, hr6, hb6⟩; obtain ⟨A9, c9, rfl⟩ := Kd.R_slice hr6; have HR6 := Aside0.mk (Kd.R_mono (ok' := fun q => w5.heap.size ≤ q) (Kd.R_bound hr6) (fun q hq => hq.2.1)); have HB6 := Aside0.mk (below_step HB5.out hb6); have HN6 := Aside0.mk (Kd.N_below (Kd.N_bound HN.out) (below_step HW5.out hb6)); have HX6 := Aside0.mk (blk_below HX5.out hb6); have hx6_0 := blk_cell HX6.out 0; have hx6_1 := blk_cell HX6.out 1; have hx6_2 := blk_cell HX6.out 2; have hx6_3 := blk_cell HX6.out 3; have hx6_4 := blk_cell HX6.out 4; have hx6_5 := blk_cell HX6.out 5; have hx6_6 := blk_cell HX6.out 6; have hx6_7 := blk_cell HX6.out 7; have hf6_7 := blk_frozen HX6.out 7; clear hr6 hb6)) | ((with_reducible refine gate_dst (N := 46) rfl ?_); go_must (refine Kd.N_append (w0 := W0) k30 W0.heap.size rfl (.tmp 43) (.tmp 45) 25 30 _ 80 rfl Try.underlying25 info30 rfl (by decide) (by decide) u8 (keepG l gen floor (l.take k) 0) x [.int .i64 x.f0, .int .i64 x.f1, .int .i64 x.f2, .int .i64 x.f3, .int .i64 x.f4, .int .i64 x.f5, .int .i64 x.f6, .slice A9 x.f7.length c9] (fun _ => True) (fun q => w5.heap.size ≤ q) rfl ?hx (k30_mkF _ _ x (Kd.R_reads' HR6.out).2.1 (Kd.R_F (Kd.R_far HR6.out (fun q hq => ?hq1) _))) ?hokp (fun _ _ => trivial) (Kd.N_mono (Kd.N_far HN6.out (fun q hq => ?hq2) _) (fun _ _ => trivial)) (below_set HB6.out HB.out.size) ?hb ?hl ?_); (case hx => (refine (Eq.trans (b := Value.slice (some ⟨w6.heap.size, 0, none⟩) 1 1) rfl ?_); simp)); (case hq1 => (have := blk_lt HX5.out; show q ≠ wr.heap.size; omega)); (case hq2 => (have := hq.2; show q ≠ wr.heap.size; omega)); (case hokp => (intro q hq; refine ⟨trivial, fun he => ?_⟩; have := Kd.N_lt HN.out q he.symm; have := blk_lt HX5.out; omega)); (case hb => (have := HB6.out.size; simp; omega)); (case hl => (have := HKL.out; omega)); intro v4 w4 hN4 hB4 hg4 ho4; have HN4 := Aside0.mk hN4; have HB4 := Aside0.mk hB4; clear hN4 hB4 hg4 ho4))
              go_roundw
              case rel => exact ⟨k + 1, by omega, by go_num, ⟨by rw [HST.out, if_pos HF.out]; exact HN4.out⟩, HB4⟩
              case measure => simp [intOf]; omega
            · have d3 : (x.f6 != 0) = true := bne_iff_ne.2 hg4
              have HF : Aside0 (keepB l gen floor k x = false) := ⟨by simp [keepB, hg3, hg4]⟩
              clear hg1 hg3 hg4 hkd
              go_wp2
              go_roundw
              case rel => exact ⟨k + 1, by omega, by go_num, ⟨by rw [HST.out, if_neg (by rw [HF.out]; simp), List.append_nil]; exact HN1.out⟩, HB1⟩
              case measure => simp [intOf]; omega
      · have d1 : decide (gen < x.f1) = true := decide_eq_true (by omega)
        have HF : Aside0 (keepB l gen floor k x = false) := ⟨by simp [keepB, hg1]⟩
        clear hg1
        go_wp2
        go_roundw
        case rel => exact ⟨k + 1, by omega, by go_num, ⟨by rw [HST.out, if_neg (by rw [HF.out]; simp), List.append_nil]; exact HN1.out⟩, HB1⟩
        case measure => simp [intOf]; omega
    · obtain rfl : k = l.length := by omega
      rw [List.take_length] at HN
      have hkl := keepG_len l gen floor l 0
      have hl14 := HLEN.out
      have HB2 := Aside0.mk (below_then HB0.out HB0.out.size HB.out)
      rcases N_sortable HN.out with ⟨rfl, hnil⟩ | ⟨g, cap, d, rfl, hcap, hbg, hgl, hmap, hH, hF⟩
      · have HE : Aside0 (liveL l gen floor = []) := ⟨by rw [liveL, hnil]; rfl⟩
        have HS := Aside0.mk (sortNil.calls wr)
        clear hnil hkl
        go_wp2_with (first | (go_at_call 43; refine HS.out.mono ?_; rintro e w7 ⟨rfl, hw7⟩; have HW := Aside0.mk hw7; clear hw7))
        go_ret
        refine ⟨none, 0, by rw [HE.out]; rfl, by rw [HE.out]; exact Nat.le_refl _, by rw [HE.out]; exact ⟨rfl, by simp, fun h => by simp at h⟩, ?_⟩
        rw [HW.out]
        exact HB2.out
      · have hds : d.size ≤ 14 := by
          have := congrArg List.length hmap
          rw [List.length_map, Array.length_toList] at this
          omega
        have HS := Aside0.mk (sortStableE.calls g cap d wr hH hgl hds)
        have hE : (sortE d).toList.map (·.x) = liveL l gen floor := by rw [sortE_map, hmap]; rfl
        have HLN : Aside0 ((liveL l gen floor).length = d.size) := ⟨by rw [← hE, List.length_map, Array.length_toList, sortE_size]⟩
        have HRD : Aside0 (∀ m os, Kd.C k30 (sortWorldK encE 8 wr g 0 m (sortE d) os) (some ⟨g, 0, none⟩) d.size (liveL l gen floor)) := ⟨fun m os => by
          have := sorted_reads wr g m d (sortE d) os hgl hH (sortE_size d) (sortE_mem d) (by omega) hF
          rw [hE] at this
          exact this⟩
        have HBB : Aside0 (∀ m os, Below W0.heap.size wr (sortWorldK encE 8 wr g 0 m (sortE d) os)) := ⟨fun m os => sort_below wr W0.heap.size g m (sortE d) os hbg HB.out.size⟩
        have HCP := Aside0.mk hcap
        clear hmap hH hF hE hkl hds hcap hbg hgl
        go_wp2_with (first | (go_at_call 43; refine HS.out.mono ?_; rintro e w7 ⟨rfl, m, os, hw7⟩; have HW := Aside0.mk hw7; clear hw7))
        go_ret
        refine ⟨some ⟨g, 0, none⟩, cap, by rw [HLN.out]; rfl, by rw [HLN.out]; exact HCP.out, by rw [HW.out, HLN.out]; exact HRD.out m os, ?_⟩
        rw [HW.out]
        exact below_then HB0.out HB0.out.size ((HB.out).trans (HBB.out m os))
end Go.Proofs.Ythjfffgddegmoaa.PA
namespace Go.Proofs.Ythjfffgddegmoaa.PA
open Go.RowKit Go.Proofs.Ythjfffgddegmoaa.G Go.Proofs.YthjfffgddegmoaaW.PrintWords Go.Proofs.YthjfffgddegmoaaW.PrintMore
set_option linter.unusedVariables false
set_option linter.unusedSimpArgs false
def insAt (out : List S30) (x : S30) (p : Nat) : List S30 := out.take p ++ x :: out.drop p
theorem copy_f (x : S30) (h : x.f7.length ≤ 17592186044415) : dryrotref16_Copy.f x.f0 x.f1 x.f2 x.f3 x.f4 x.f5 x.f6 x.f7 = some (x.f0, x.f1, x.f2, x.f3, x.f4, x.f5, x.f6, x.f7) := by
  unfold dryrotref16_Copy.f
  rw [Option.bind_some, if_pos (by simp; omega), List.nil_append]
set_option maxRecDepth 100000 in
theorem live_l3 (l l16 out : List S30) (gen floor i17 i18 : Int) (x : S30) (r : List S30) (hx : x.f7.length ≤ 17592186044415) (ho : out.length ≤ 1000) : ∀ j, j ≤ out.length →
    (∃ k, dryrotref16_Live.l0 k l gen floor (insAt out x (posE out x j)) l16 i17 (wrap64 (i18 + 1)) = some r) → ∃ k, dryrotref16_Live.l3 k l gen floor out (j : Int) l16 i17 i18 x.f0 x.f1 x.f2 x.f3 x.f4 x.f5 x.f6 x.f7 = some r
  | 0, _, ⟨k, hk⟩ => by
    refine ⟨k + 1, ?_⟩
    rw [dryrotref16_Live.l3, if_neg (by omega), Option.bind_some, if_pos (by omega), if_pos (by omega), Option.bind_some, if_pos (by simp), Option.bind_some, copy_f x hx, Option.bind_some, if_pos (by simp), Option.bind_some, Option.bind_some, if_pos (by simp; omega)]
    exact hk
  | j + 1, hj, ⟨k, hk⟩ => by
    have hw : wrap64 (((j + 1 : Nat) : Int) - 1) = (j : Int) := by rw [w64 (by omega) (by omega)]; omega
    have hrd : rd_T30 out (j : Int) = out.getD j z30 := by simp [rd_T30]
    by_cases hlt : x.f3 < (out.getD j z30).f3
    · rw [posE, if_pos hlt] at hk
      obtain ⟨k', hk'⟩ := live_l3 l l16 out gen floor i17 i18 x r hx ho j (by omega) ⟨k, hk⟩
      refine ⟨k' + 1, ?_⟩
      rw [dryrotref16_Live.l3, if_pos (by omega), hw, if_pos (by omega), if_pos (by omega), hrd, if_pos hlt]
      exact hk'
    · rw [posE, if_neg hlt] at hk
      refine ⟨k + 1, ?_⟩
      rw [dryrotref16_Live.l3, if_pos (by omega), hw, if_pos (by omega), if_pos (by omega), hrd, if_neg hlt, Option.bind_some, if_pos (by omega), if_pos (by omega), Option.bind_some, if_pos (by simp; omega), Option.bind_some, copy_f x hx, Option.bind_some, if_pos (by simp; omega), Option.bind_some, Option.bind_some, if_pos (by simp; omega)]
      rw [Int.toNat_natCast, List.nil_append, List.append_assoc]
      exact hk
/-- the flag behind one's parents -/
theorem live_l2 (l l16 l38 out : List S30) (gen floor i8 i11 i17 i18 i39 i40 : Int) (x o : S30) (ps : List Int) (r : List S30) (hp : ps.length ≤ 17592186044415) : ∀ d i, i + d = ps.length → ∀ fl : Bool,
    (∃ k, dryrotref16_Live.l1 k l gen floor out i8 (fl && !(decide (i11 ≠ i8) && decide (o.f1 ≤ gen) && (ps.drop i).contains x.f0)) l16 i17 i18 l38 i39 (wrap64 (i40 + 1)) x.f0 x.f1 x.f2 x.f3 x.f4 x.f5 x.f6 x.f7 = some r) →
    ∃ k, dryrotref16_Live.l2 k l gen floor out i8 fl i11 l16 i17 i18 l38 i39 i40 ps (ps.length : Int) (i : Int) x.f0 x.f1 x.f2 x.f3 x.f4 x.f5 x.f6 x.f7 o.f0 o.f1 o.f2 o.f3 o.f4 o.f5 o.f6 o.f7 = some r
  | 0, i, h, fl, ⟨k, hk⟩ => by
    refine ⟨k + 1, ?_⟩
    rw [List.drop_of_length_le (by omega), List.contains_nil, Bool.and_false, Bool.not_false, Bool.and_true] at hk
    rw [dryrotref16_Live.l2, if_neg (by omega)]
    exact hk
  | d + 1, i, h, fl, hk => by
    have hi : i < ps.length := by omega
    have hw : wrap64 ((i : Int) + 1) = ((i + 1 : Nat) : Int) := wrB (by omega)
    have hrd : rd ps (i : Int) = ps[i] := by simp [rd, List.getD_eq_getElem?_getD, List.getElem?_eq_getElem hi]
    rw [List.drop_eq_getElem_cons hi, List.contains_cons] at hk
    cases fl with
    | false =>
      obtain ⟨k', hk'⟩ := live_l2 l l16 l38 out gen floor i8 i11 i17 i18 i39 i40 x o ps r hp d (i + 1) (by omega) false (by simpa using hk)
      refine ⟨k' + 1, ?_⟩
      rw [dryrotref16_Live.l2, if_pos (by omega), if_pos (by omega), if_pos (by omega), if_neg (by simp), hw]
      exact hk'
    | true =>
      by_cases h1 : i11 = i8
      · obtain ⟨k', hk'⟩ := live_l2 l l16 l38 out gen floor i8 i11 i17 i18 i39 i40 x o ps r hp d (i + 1) (by omega) true (by simpa [h1] using hk)
        refine ⟨k' + 1, ?_⟩
        rw [dryrotref16_Live.l2, if_pos (by omega), if_pos (by omega), if_pos (by omega), if_pos rfl, if_pos h1, hw]
        exact hk'
      · by_cases h2 : o.f1 ≤ gen
        · obtain ⟨k', hk'⟩ := live_l2 l l16 l38 out gen floor i8 i11 i17 i18 i39 i40 x o ps r hp d (i + 1) (by omega) (!(ps[i] == x.f0)) (by
            have e1 : decide (i11 ≠ i8) = true := decide_eq_true h1
            have e2 : decide (o.f1 ≤ gen) = true := decide_eq_true h2
            rw [e1, e2, Bool.true_and, Bool.true_and, Bool.true_and, Bool.not_or] at hk
            rw [e1, e2, Bool.true_and, Bool.true_and, show (ps[i] == x.f0) = (x.f0 == ps[i]) from BEq.comm]
            exact hk)
          refine ⟨k' + 1, ?_⟩
          rw [dryrotref16_Live.l2, if_pos (by omega), if_pos (by omega), if_pos (by omega), if_pos rfl, if_neg h1, if_pos h2, hw, hrd]
          exact hk'
        · obtain ⟨k', hk'⟩ := live_l2 l l16 l38 out gen floor i8 i11 i17 i18 i39 i40 x o ps r hp d (i + 1) (by omega) true (by simpa [h2] using hk)
          refine ⟨k' + 1, ?_⟩
          rw [dryrotref16_Live.l2, if_pos (by omega), if_pos (by omega), if_pos (by omega), if_pos rfl, if_neg h1, if_neg h2, hw]
          exact hk'
theorem live_l1 (l l16 l38 out : List S30) (gen floor i17 i18 : Int) (n8 : Nat) (x : S30) (r : List S30) (hx : x.f7.length ≤ 17592186044415) (ho : out.length ≤ 1000) (h38 : l38.length ≤ 1000) (hp : ∀ y ∈ l38, y.f7.length ≤ 17592186044415) : ∀ d i, i + d = l38.length → ∀ fl : Bool,
    (∃ k, (if (fl && !kid gen x.f0 n8 (l38.drop i) i) = true then dryrotref16_Live.l0 k l gen floor (insS out x) l16 i17 (wrap64 (i18 + 1)) else dryrotref16_Live.l0 k l gen floor out l16 i17 (wrap64 (i18 + 1))) = some r) →
    ∃ k, dryrotref16_Live.l1 k l gen floor out (n8 : Int) fl l16 i17 i18 l38 (l38.length : Int) (i : Int) x.f0 x.f1 x.f2 x.f3 x.f4 x.f5 x.f6 x.f7 = some r
  | 0, i, h, fl, ⟨k, hk⟩ => by
    rw [List.drop_of_length_le (by omega), kid, Bool.not_false, Bool.and_true] at hk
    cases fl with
    | true =>
      rw [if_pos rfl] at hk
      obtain ⟨k', hk'⟩ := live_l3 l l16 out gen floor i17 i18 x r hx ho out.length (Nat.le_refl _) ⟨k, hk⟩
      refine ⟨k' + 1, ?_⟩
      rw [dryrotref16_Live.l1, if_neg (by omega), if_pos rfl]
      exact hk'
    | false =>
      rw [if_neg (by simp)] at hk
      refine ⟨k + 1, ?_⟩
      rw [dryrotref16_Live.l1, if_neg (by omega), if_neg (by simp)]
      exact hk
  | d + 1, i, h, fl, hk => by
    have hi : i < l38.length := by omega
    have hw : wrap64 ((i : Int) + 1) = ((i + 1 : Nat) : Int) := wrB (by omega)
    have hrd : rd_T30 l38 (i : Int) = l38[i] := rd_nat l38 i hi
    rw [List.drop_eq_getElem_cons hi, kid, Bool.not_or, ← Bool.and_assoc] at hk
    obtain ⟨k1, hk1⟩ := live_l1 l l16 l38 out gen floor i17 i18 n8 x r hx ho h38 hp d (i + 1) (by omega) _ hk
    obtain ⟨k2, hk2⟩ := live_l2 l l16 l38 out gen floor (n8 : Int) (i : Int) i17 i18 (l38.length : Int) (i : Int) x l38[i] l38[i].f7 r (hp _ (List.getElem_mem hi)) l38[i].f7.length 0 (by omega) fl (by
      refine ⟨k1, ?_⟩
      rw [List.drop_zero, hw, show (decide ((i : Int) ≠ (n8 : Int))) = decide (i ≠ n8) from by rw [decide_eq_decide]; omega]
      exact hk1)
    refine ⟨k2 + 1, ?_⟩
    rw [dryrotref16_Live.l1, if_pos (by omega), if_pos (by omega), if_pos (by omega), hrd]
    exact hk2
theorem live_l0 (l : List S30) (gen floor : Int) (hl : l.length ≤ 900) (hp : ∀ y ∈ l, y.f7.length ≤ 17592186044415) : ∀ d i, i + d = l.length → ∀ out : List S30, out.length ≤ i →
    ∃ k, dryrotref16_Live.l0 k l gen floor out l (l.length : Int) (i : Int) = some (sortS out (keepG l gen floor (l.drop i) i))
  | 0, i, h, out, ho => by
    refine ⟨1, ?_⟩
    rw [dryrotref16_Live.l0, if_neg (by omega), List.drop_of_length_le (by omega)]
    rfl
  | d + 1, i, h, out, ho => by
    have hi : i < l.length := by omega
    have hw : wrap64 ((i : Int) + 1) = ((i + 1 : Nat) : Int) := wrB (by omega)
    have hrd : rd_T30 l (i : Int) = l[i] := rd_nat l i hi
    have hpl : (insS out l[i]).length = out.length + 1 := by
      have := posE_le out l[i] out.length
      simp [insS]
      omega
    obtain ⟨ka, hka⟩ := live_l0 l gen floor hl hp d (i + 1) (by omega) (insS out l[i]) (by omega)
    obtain ⟨kb, hkb⟩ := live_l0 l gen floor hl hp d (i + 1) (by omega) out (by omega)
    have key : ∀ fl : Bool, ∃ k, dryrotref16_Live.j1 k l gen floor out (i : Int) fl l (l.length : Int) (i : Int) l[i].f0 l[i].f1 l[i].f2 l[i].f3 l[i].f4 l[i].f5 l[i].f6 l[i].f7 = some (if (fl && !kid gen l[i].f0 i l 0) = true then sortS (insS out l[i]) (keepG l gen floor (l.drop (i + 1)) (i + 1)) else sortS out (keepG l gen floor (l.drop (i + 1)) (i + 1))) := by
      intro fl
      obtain ⟨k1, hk1⟩ := live_l1 l l l out gen floor (l.length : Int) (i : Int) i l[i] (if (fl && !kid gen l[i].f0 i l 0) = true then sortS (insS out l[i]) (keepG l gen floor (l.drop (i + 1)) (i + 1)) else sortS out (keepG l gen floor (l.drop (i + 1)) (i + 1))) (hp _ (List.getElem_mem hi)) (by omega) (by omega) hp l.length 0 (by omega) fl (by
        rw [List.drop_zero, hw]
        by_cases hc : (fl && !kid gen l[i].f0 i l 0) = true
        · refine ⟨ka, ?_⟩
          rw [if_pos hc, if_pos hc]
          exact hka
        · refine ⟨kb, ?_⟩
          rw [if_neg hc, if_neg hc]
          exact hkb)
      refine ⟨k1 + 1, ?_⟩
      rw [dryrotref16_Live.j1]
      exact hk1
    rw [List.drop_eq_getElem_cons hi, keepG]
    by_cases h1 : l[i].f1 ≤ gen
    · by_cases h2 : floor ≤ l[i].f5
      · obtain ⟨k1, hk1⟩ := key true
        refine ⟨k1 + 1, ?_⟩
        rw [dryrotref16_Live.l0, if_pos (by omega), if_pos (by omega), if_pos (by omega), hrd, if_pos h1, if_pos h2, hk1, show keepB l gen floor i l[i] = (true && !kid gen l[i].f0 i l 0) from by simp [keepB, h1, h2]]
        split <;> rfl
      · obtain ⟨k1, hk1⟩ := key (l[i].f6 == 0)
        refine ⟨k1 + 1, ?_⟩
        rw [dryrotref16_Live.l0, if_pos (by omega), if_pos (by omega), if_pos (by omega), hrd, if_pos h1, if_neg h2, hk1, show keepB l gen floor i l[i] = ((l[i].f6 == 0) && !kid gen l[i].f0 i l 0) from by unfold keepB; rw [decide_eq_true h1, decide_eq_false h2, Bool.true_and, Bool.false_or]; rfl]
        split <;> rfl
    · obtain ⟨k1, hk1⟩ := key false
      refine ⟨k1 + 1, ?_⟩
      rw [dryrotref16_Live.l0, if_pos (by omega), if_pos (by omega), if_pos (by omega), hrd, if_neg h1, hk1, show keepB l gen floor i l[i] = (false && !kid gen l[i].f0 i l 0) from by simp [keepB, h1]]
      split <;> rfl
theorem rlive_f (l : List S30) (gen floor : Int) (hl : l.length ≤ 900) (hp : ∀ y ∈ l, y.f7.length ≤ 17592186044415) : ∃ k, dryrotref16_Live.f k l gen floor = some (liveL l gen floor) :=
  live_l0 l gen floor hl hp l.length 0 (by omega) [] (by simp)
end Go.Proofs.Ythjfffgddegmoaa.PA
-- written by wip/gprint.py of this session (it runs the print of the guide's kit over contracts of the session)
namespace Go.Proofs.Ythjfffgddegmoaa.PA
open Go.RowKit Go.Proofs.YthjfffgddegmoaaW.PrintWords Go.Proofs.YthjfffgddegmoaaW.PrintLast Go.Proofs.YthjfffgddegmoaaW.PrintMore
attribute [local go_sem] max2_int min2_int max_two min_two max_three min_three max_four min_four   -- for this text's walks alone
set_option linter.unusedVariables false
set_option linter.unusedSimpArgs false

/-! ### slices_Equal_int_int: function 18 -/
def slices_Equal_int_int.l0 : Nat → List Int → List Int → Int → Int → Option (Bool)
  | 0, _, _, _, _ => none
  | k + 1, x0, x1, x12, x13 => if x13 < x12 then (if 0 ≤ x13 then (if x13 < (x0.length : Int) then (if x13 < (x1.length : Int) then (if (rd x0 x13) = (rd x1 x13) then (slices_Equal_int_int.l0 k x0 x1 x12 (wrap64 (x13 + 1))) else (some false)) else (none)) else (none)) else (none)) else (some true)
def slices_Equal_int_int.f (k : Nat) (l0 : List Int) (l1 : List Int) : Option (Bool) := if (l0.length : Int) = (l1.length : Int) then (slices_Equal_int_int.l0 k l0 l1 (l0.length : Int) 0) else (some false)
theorem slices_Equal_int_int.mono_l : ∀ k, (∀ y0 y1 y2 y3, LeO (slices_Equal_int_int.l0 k y0 y1 y2 y3) (slices_Equal_int_int.l0 (k + 1) y0 y1 y2 y3))
  | 0 => fun _ _ _ _ r h => by simp [slices_Equal_int_int.l0] at h
  | k + 1 => by
    have ih0 := slices_Equal_int_int.mono_l k
    · intro y0 y1 y2 y3
      unfold slices_Equal_int_int.l0
      repeat' first
      | (with_reducible exact ih0 _ _ _ _)
      | (with_reducible exact LeO.refl _)
      | (with_reducible exact LeO.none _)
      | (with_reducible refine LeO.ite ?_ ?_)
      | (with_reducible refine LeO.bind ?_ (fun _ => ?_))
      | exact ih0 _ _ _ _
      | exact LeO.none _
      | refine LeO.ite ?_ ?_
      | refine LeO.bind ?_ (fun _ => ?_)
theorem slices_Equal_int_int.mono : ∀ a0 a1 k, LeO (slices_Equal_int_int.f k a0 a1) (slices_Equal_int_int.f (k + 1) a0 a1) := by
  intro a0 a1 k
  have ih0 := slices_Equal_int_int.mono_l k
  unfold slices_Equal_int_int.f
  repeat' first
      | (with_reducible exact ih0 _ _ _ _)
      | (with_reducible exact LeO.refl _)
      | (with_reducible exact LeO.none _)
      | (with_reducible refine LeO.ite ?_ ?_)
      | (with_reducible refine LeO.bind ?_ (fun _ => ?_))
      | exact ih0 _ _ _ _
      | exact LeO.none _
      | refine LeO.ite ?_ ?_
      | refine LeO.bind ?_ (fun _ => ?_)
set_option maxHeartbeats 8000000 in
set_option maxRecDepth 100000 in
theorem slices_Equal_int_int.calls (k : Nat) (A0 : Option Addr) (c0 : Nat) (l0 : List Int) (A1 : Option Addr) (c1 : Nat) (l1 : List Int) (r : Bool) (w : World) (hr0 : Kd.C (Kd.int .i64) w A0 l0.length l0) (hc0 : l0.length ≤ c0) (hr1 : Kd.C (Kd.int .i64) w A1 l1.length l1) (hc1 : l1.length ≤ c1) (h : slices_Equal_int_int.f k l0 l1 = some r) :
    Calls Try.prog 18 #[.slice A0 l0.length c0, .slice A1 l1.length c1] w fun e w' => e = .returned (.bool r) ∧ Drawn0 w w' := by
  have HR0 := Aside0.mk hr0
  have HC0 := Aside0.mk hc0
  clear hr0 hc0
  have HR1 := Aside0.mk hr1
  have HC1 := Aside0.mk hc1
  clear hr1 hc1
  have H : (if (l0.length : Int) = (l1.length : Int) then (slices_Equal_int_int.l0 k l0 l1 (l0.length : Int) 0) else (some false)) = some r := h
  clear h
  by_cases c3 : (l0.length : Int) = (l1.length : Int)
  · rw [if_pos c3] at H
    have c3b0 : ((l0.length : Int) == (l1.length : Int)) = true := beq_iff_eq.mpr c3
    have c3b1 : ((l0.length : Int) != (l1.length : Int)) = false := bne_eq_false_iff_eq.mpr c3
    have c3b2 : (l0.length == l1.length) = true := by first | simpa using c3 | (simp at c3 ⊢; omega)
    clear c3
    have H' := Aside0.mk H
    clear H
    go_enter Try.func18, Try.ntmps18
    go_wp2
    repeat (go_quiet (fail); try go_wp2)
    go_loopg [13] k (fun kq v13 w' => ∃ (x13_1 : Int), v13 = .int .i64 x13_1 ∧ Aside0 (slices_Equal_int_int.l0 kq l0 l1 (l0.length : Int) x13_1 = some r) ∧ Aside0 (kq ≤ k) ∧ Drawn0 w w')
    case atStart => exact ⟨(0), (by first | rfl | (simp; done) | (simp [*]; done)), H', ⟨Nat.le_refl _⟩, by repeat (first | exact Drawn0.refl _ | apply Drawn0.step)⟩
    case round =>
      clear H'
      try clear c1
      try clear p2
      try clear c3
      try clear c3b0
      try clear c3b1
      try clear c3b2
      obtain ⟨x13_1, rfl, HA, HK1, ⟨m1, rfl⟩⟩ := hrel
      cases gk with
      | zero => exact absurd HA.out (by simp [slices_Equal_int_int.l0])
      | succ k1 =>
        have H := HA.out
        clear HA
        simp only [slices_Equal_int_int.l0] at H
        by_cases c4 : x13_1 < (l0.length : Int)
        · rw [if_pos c4] at H
          have c4b0 : decide (x13_1 < (l0.length : Int)) = true := decide_eq_true c4
          clear c4
          by_cases c5 : 0 ≤ x13_1
          · rw [if_pos c5] at H
            have c5b0 : decide (0 ≤ x13_1) = true := decide_eq_true c5
            clear c5
            by_cases c6 : x13_1 < (l0.length : Int)
            · rw [if_pos c6] at H
              have c6b0 : decide (x13_1 < (l0.length : Int)) = true := decide_eq_true c6
              clear c6
              by_cases c7 : x13_1 < (l1.length : Int)
              · rw [if_pos c7] at H
                have c7b0 : decide (x13_1 < (l1.length : Int)) = true := decide_eq_true c7
                clear c7
                by_cases c8 : (rd l0 x13_1) = (rd l1 x13_1)
                · rw [if_pos c8] at H
                  have c8b0 : ((rd l0 x13_1) == (rd l1 x13_1)) = true := beq_iff_eq.mpr c8
                  have c8b1 : ((rd l0 x13_1) != (rd l1 x13_1)) = false := bne_eq_false_iff_eq.mpr c8
                  clear c8
                  have H' := Aside0.mk H
                  clear H
                  have p134 : 0 ≤ (x13_1 : Int) := of_decide_eq_true (by first | (with_reducible assumption) | assumption)
                  have q134 : x13_1 < (l0.length : Int) := of_decide_eq_true (by first | (with_reducible assumption) | assumption)
                  obtain ⟨ad134, e134, hx134_0⟩ := Kd.at_int HR0.out x13_1 p134 q134
                  cases e134
                  replace p134 := eq_true p134
                  replace q134 := eq_true q134
                  have p135 : 0 ≤ (x13_1 : Int) := of_decide_eq_true (by first | (with_reducible assumption) | assumption)
                  have q135 : x13_1 < (l1.length : Int) := of_decide_eq_true (by first | (with_reducible assumption) | assumption)
                  obtain ⟨ad135, e135, hx135_0⟩ := Kd.at_int HR1.out x13_1 p135 q135
                  cases e135
                  replace p135 := eq_true p135
                  replace q135 := eq_true q135
                  go_wp2
                  repeat (go_quiet (fail); try go_wp2)
                  go_roundg k1
                  case measure => have := HK1.out; omega
                  case rel => exact ⟨(wrap64 (x13_1 + 1)), (by first | rfl | (simp; done) | (simp [*]; done)), H', ⟨by have := HK1.out; omega⟩, by repeat (first | exact Drawn0.refl _ | apply Drawn0.step)⟩
                · rw [if_neg c8] at H
                  have c8b0 : ((rd l0 x13_1) == (rd l1 x13_1)) = false := beq_eq_false_iff_ne.mpr c8
                  have c8b1 : ((rd l0 x13_1) != (rd l1 x13_1)) = true := bne_iff_ne.mpr c8
                  obtain rfl := Option.some.inj H
                  have p134 : 0 ≤ (x13_1 : Int) := of_decide_eq_true (by first | (with_reducible assumption) | assumption)
                  have q134 : x13_1 < (l0.length : Int) := of_decide_eq_true (by first | (with_reducible assumption) | assumption)
                  obtain ⟨ad134, e134, hx134_0⟩ := Kd.at_int HR0.out x13_1 p134 q134
                  cases e134
                  replace p134 := eq_true p134
                  replace q134 := eq_true q134
                  have p135 : 0 ≤ (x13_1 : Int) := of_decide_eq_true (by first | (with_reducible assumption) | assumption)
                  have q135 : x13_1 < (l1.length : Int) := of_decide_eq_true (by first | (with_reducible assumption) | assumption)
                  obtain ⟨ad135, e135, hx135_0⟩ := Kd.at_int HR1.out x13_1 p135 q135
                  cases e135
                  replace p135 := eq_true p135
                  replace q135 := eq_true q135
                  go_wp2
                  repeat (go_quiet (fail); try go_wp2)
                  go_ret
                  exact ⟨by first | rfl | (simp; done) | (simp [*]; done) | (simp; decide +kernel), by repeat (first | exact Drawn0.refl _ | apply Drawn0.step)⟩
              · rw [if_neg c7] at H
                exact absurd H (by simp)
            · rw [if_neg c6] at H
              exact absurd H (by simp)
          · rw [if_neg c5] at H
            exact absurd H (by simp)
        · rw [if_neg c4] at H
          have c4b0 : decide (x13_1 < (l0.length : Int)) = false := decide_eq_false c4
          clear c4
          obtain rfl := Option.some.inj H
          go_wp2
          repeat (go_quiet (fail); try go_wp2)
          go_ret
          exact ⟨by first | rfl | (simp; done) | (simp [*]; done) | (simp; decide +kernel), by repeat (first | exact Drawn0.refl _ | apply Drawn0.step)⟩
  · rw [if_neg c3] at H
    have c3b0 : ((l0.length : Int) == (l1.length : Int)) = false := beq_eq_false_iff_ne.mpr c3
    have c3b1 : ((l0.length : Int) != (l1.length : Int)) = true := bne_iff_ne.mpr c3
    have c3b2 : (l0.length == l1.length) = false := by first | simpa using c3 | (simp at c3 ⊢; omega)
    obtain rfl := Option.some.inj H
    go_enter Try.func18, Try.ntmps18
    go_wp2
    repeat (go_quiet (fail); try go_wp2)
    go_ret
    exact ⟨by first | rfl | (simp; done) | (simp [*]; done) | (simp; decide +kernel), by repeat (first | exact Drawn0.refl _ | apply Drawn0.step)⟩

end Go.Proofs.Ythjfffgddegmoaa.PA

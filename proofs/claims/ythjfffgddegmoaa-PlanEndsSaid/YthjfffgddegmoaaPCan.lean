/- Contracts of plan's functions over a map: Can: whether blocks may be. -/
import Derived.Test.YthjfffgddegmoaaPA0
import Derived.Test.YthjfffgddegmoaaPAf35
import Derived.Test.YthjfffgddegmoaaGW
import Derived.Test.YthjfffgddegmoaaWGuard
import Derived.Maps.Own
import Derived.Maps.OwnSet
import Derived.Maps.Views
import Derived.Deep.DeepMust
namespace Go.Proofs.Ythjfffgddegmoaa.PA
open Go.RowKit Go.Maps Go.Proofs.Ythjfffgddegmoaa.G Go.Proofs.YthjfffgddegmoaaW.PrintWords Go.Proofs.YthjfffgddegmoaaW.PrintLast Go.Proofs.YthjfffgddegmoaaW.PrintMore
set_option linter.unusedVariables false
set_option linter.unusedSimpArgs false

/-- a number of a block -/
def numB (n : Int) : Bool := decide (1 ≤ n) && decide (n ≤ 4611686018427387904)
/-- a block may be -/
def canB (x : S30) : Bool := numB x.f0 && numB x.f3 && numB x.f1 && decide (1 ≤ x.f2) && decide (x.f2 ≤ 3) && decide (0 ≤ x.f6) && decide (x.f6 ≤ 2147483647) && decide (x.f4 ≤ x.f5)
def canGo : List S30 → Int → List Int → Bool
  | [], _, _ => true
  | x :: r, rank, met => canB x && decide (rank < x.f3) && !met.contains x.f0 && canGo r x.f3 (met ++ [x.f0])
def canAll (l : List S30) : Bool := canGo l 0 []
def plan_Can.f (l : List S30) : Option Bool := if l.length ≤ 1000000 then some (canAll l) else none

theorem num_f (n : Int) : plan_number.f n = some (numB n) := by
  unfold plan_number.f numB
  by_cases h : 1 ≤ n <;> simp [h, show (n ≥ 1) ↔ 1 ≤ n from Iff.rfl]
theorem can_f (x : S30) : plan_can.f x.f0 x.f1 x.f2 x.f3 x.f4 x.f5 x.f6 x.f7 = some (canB x) := by
  unfold plan_can.f canB
  simp only [num_f, Option.bind_some]
  by_cases h0 : numB x.f0 = true <;> by_cases h1 : numB x.f3 = true <;> by_cases h2 : numB x.f1 = true <;> by_cases h3 : 1 ≤ x.f2 <;> by_cases h4 : x.f2 ≤ 3 <;> by_cases h5 : 0 ≤ x.f6 <;> by_cases h6 : x.f6 ≤ 2147483647 <;> simp [h0, h1, h2, h3, h4, h5, h6]

/-- a block's map holds these numbers -/
def Met (w : World) (b n : Nat) (met : List Int) : Prop := ∃ D : DataW Unit, w.ownsMap Try.prog 3 (plainElem Try.prog 4) b n D ∧ ∀ x : Int, D.atKey (.int .i64 x) (.lit (.bool false)) = .lit (.bool (met.contains x))
theorem Met.block {w w' : World} {b n : Nat} {met : List Int} (h : Met w b n met) (e : w'.heap[b]? = w.heap[b]?) : Met w' b n met := by
  obtain ⟨D, ⟨es, clock, hb, F, hs, hD⟩, h2⟩ := h
  exact ⟨D, ⟨es, clock, e.trans hb, F, hs, hD⟩, h2⟩
theorem Met.lt {w : World} {b n : Nat} {met : List Int} (h : Met w b n met) : b < w.heap.size := by
  obtain ⟨D, h, _⟩ := h
  exact h.lt
theorem met_law : Keyed Try.prog 3 := int_keyed Try.underlying3
theorem met_zero (w : World) : (zeroValue 4).run Try.prog w = .ok (.bool false) w := by kernel_rfl
theorem met_made (w : World) : Met (w.alloc (.map #[] 0)) w.heap.size 0 [] :=
  ⟨.map [], World.ownsMap_made _ _ _ _, fun x => rfl⟩
theorem plainElem_bool_inv {P : Program} {e : TypeId} (he : P.underlying e = some .bool) {v : Value} {z : DataW Unit × List MemPlace} (h : plainElem P e v = some z) : ∃ a, v = .bool a ∧ z.1 = .lit (.bool a) := by
  unfold plainElem at h
  rw [he] at h
  cases v <;> simp at h
  case bool a => exact ⟨a, rfl, by rw [← h]⟩
theorem Met.look {w : World} {b n : Nat} {met : List Int} (h : Met w b n met) {x : Int} (hx : (Lit.int .i64 x).wf = true) :
    (Instr.lookup 51 (.map (some b)) (.int .i64 x) false).run Try.prog w = .ok (.bool (met.contains x)) w := by
  obtain ⟨D, h, h2⟩ := h
  obtain ⟨v, ps, hrun, hv⟩ := h.lookup met_law Try.underlying51 (met_zero w) (plainElem_bool Try.underlying4 false) (keyOf_int_mk Try.underlying3 hx)
  obtain ⟨a, rfl, ha⟩ := plainElem_bool_inv Try.underlying4 hv
  rw [h2] at ha
  injection ha with ha
  injection ha with ha
  rw [ha]
  exact hrun
theorem Met.look' {w : World} {b n : Nat} {met : List Int} (h : Met w b n met) {x : Int} (hx : (Lit.int .i64 x).wf = true) {c : Bool} (hc : met.contains x = c) :
    (Instr.lookup 51 (.map (some b)) (.int .i64 x) false).run Try.prog w = .ok (.bool c) w := hc ▸ h.look hx
section
variable {P : Program} {ops : Array Oper} {rest : List Oper} {o : Oper} {a : Act} {Q : Exit → Act → World → Prop} {w : World}
theorem wp_look (hg : o.guard = none) (m x : Operand) (t : TypeId) (hop : o.op = Op.lookup t m x false) (b : Nat) (key v : Value) (hm : a.eval m = .map (some b)) (hx : a.eval x = key)
    (hrun : (Instr.lookup t (.map (some b)) key false).run P w = .ok v w) (hK : wpList P ops Q rest (a.put o.dst v) w) : wpList P ops Q (o :: rest) a w := by
  refine wpList_plain hg fun K' hK' => ?_
  unfold Oper.wp
  simp [execOp, hop, hm, hx, hrun, Result.andThen]
  exact hK' _ _ hK
end
theorem wp_met {ops : Array Oper} {rest : List Oper} {o : Oper} {a : Act} {Q : Exit → Act → World → Prop} {w : World} (hg : o.guard = none) (m x v : Operand) (hop : o.op = Op.mapUpdate 51 m x v) (b n : Nat) (met : List Int)
    (hm : a.eval m = .map (some b)) (h : Met w b n met) (hn : n < maxLen) (z : Int) (hx : a.eval x = .int .i64 z) (hv : a.eval v = .bool true) (hz : (Lit.int .i64 z).wf = true)
    (hK : ∀ w', Met w' b (n + 1) (met ++ [z]) → w.grownBy w' (some b) → wpList Try.prog ops Q rest (a.put o.dst undef) w') : wpList Try.prog ops Q (o :: rest) a w := by
  obtain ⟨D, h, h2⟩ := h
  refine wpList_mapUpdate_own w hg m x v _ hop 3 4 met_law Try.underlying51 _ b n D hm h hn _ _ (.int .i64 z) hx hv (keyOf_int_mk Try.underlying3 hz) _ [] (plainElem_bool Try.underlying4 true) fun w' h' hg' => hK w' ⟨_, h', fun y => ?_⟩ hg'
  by_cases e : y = z
  · subst e
    rw [atKey_put_same h.isMap (by simp [WideAt.IsKeyLit])]
    simp
  · rw [atKey_put_other (fun k => e (by injection k)), h2]
    simp [e]

theorem gate_mapu {P : Program} {ops : Array Oper} {rest : List Oper} {o : Oper} {a : Act} {Q : Exit → Act → World → Prop} {W : World} {t : TypeId} {m x v : Operand} (_ho : o.op = .mapUpdate t m x v) (h : wpList P ops Q (o :: rest) a W) : wpList P ops Q (o :: rest) a W := h
theorem blk_alloc_old {w : World} {b : Nat} (o : Obj) (h : b < w.heap.size) : (w.alloc o).heap[b]? = w.heap[b]? := (below_alloc (Below.refl w.heap.size w) o).block b h
theorem canGo_cons (l : List S30) (k : Nat) (hk : k < l.length) (rank : Int) (met : List Int) : canGo (l.drop k) rank met = (canB (rd_T30 l (k : Int)) && decide (rank < (rd_T30 l (k : Int)).f3) && !met.contains (rd_T30 l (k : Int)).f0 && canGo (l.drop (k + 1)) (rd_T30 l (k : Int)).f3 (met ++ [(rd_T30 l (k : Int)).f0])) := by
  have e : rd_T30 l (k : Int) = l[k] := by simp [rd_T30, List.getD_eq_getElem?_getD, List.getElem?_eq_getElem hk]
  rw [List.drop_eq_getElem_cons hk, e]
  rfl
theorem canB_wf {x : S30} (h : canB x = true) : (Lit.int .i64 x.f0).wf = true := by
  unfold canB numB at h
  simp only [Bool.and_eq_true, decide_eq_true_eq] at h
  simp [Lit.wf, IntKind.min, IntKind.max, IntKind.signed, IntKind.bits]
  omega

set_option maxHeartbeats 4000000 in
set_option maxRecDepth 100000 in
theorem plan_Can.calls (A0 : Option Addr) (c0 : Nat) (l0 : List (S30)) (r : Bool) (w : World) (hr0 : Kd.C k30 w A0 l0.length l0) (hc0 : l0.length ≤ c0) (h : plan_Can.f l0 = some r) :
    Calls Try.prog 16 #[.slice A0 l0.length c0] w fun e w' => e = .returned (.bool r) ∧ Below w.heap.size w w' := by
  unfold plan_Can.f at h
  split at h
  case isFalse => cases h
  case isTrue hlen =>
  obtain rfl := Option.some.inj h
  clear h
  have HR := Aside0.mk hr0
  clear hr0 hc0
  have hmm := @run_makeMap Try.prog
  go_enter Try.func16, Try.ntmps16
  go_wp2
  go_loopw [4, 10] (fun v i wr => ∃ (k : Nat) (rank : Int) (met : List Int), k ≤ l0.length ∧ i = .int .i64 k ∧ v = .int .i64 rank ∧ Aside0 (canAll l0 = canGo (l0.drop k) rank met) ∧ Aside0 (Met wr w.heap.size k met) ∧ Aside0 (Below w.heap.size w wr)) (fun _ i _ => l0.length - (intOf i).toNat)
  case atStart => exact ⟨0, 0, [], Nat.zero_le _, rfl, rfl, ⟨rfl⟩, ⟨met_made w⟩, ⟨below_alloc (Below.refl _ _) _⟩⟩
  case round =>
    obtain ⟨k, rank, met, hk, rfl, rfl, HE, HM, HB⟩ := hrel
    by_cases hlt : k < l0.length
    · have hsz := HM.out.lt
      have hC := Kd.C_below HR.out HB.out
      obtain ⟨ad, A7, c7, rfl, h0, h1, h2, h3, h4, h5, h6, h7, l7, g7⟩ := at_T30 hC (k : Int) (by omega) (by omega)
      rw [Int.toNat_natCast] at h0 h1 h2 h3 h4 h5 h6 h7
      have HST := Aside0.mk (canGo_cons l0 k hlt rank met)
      have G7 := Aside0.mk g7
      have L7 := Aside0.mk l7
      have HSZ := Aside0.mk hsz
      clear hC g7 l7
      generalize rd_T30 l0 (k : Int) = x at h0 h1 h2 h3 h4 h5 h6 h7 HST G7 L7
      cases hcan : canB x with
      | false =>
        go_wp2_with (first | (go_at_call 35; (with_reducible refine (plan_can.calls _ _ _ _ _ _ _ _ _ x.f7 false _ ?side1 ?side2 ((can_f x).trans (by rw [hcan]))).mono ?_); (case side1 => repeat (first | exact G7.out | (with_reducible refine Kd.C_alloc ?_ _))); (case side2 => exact L7.out); rintro e w17 ⟨rfl, hb⟩; have HB2 := Aside0.mk hb; have HM2 := Aside0.mk ((HM.out.block (blk_alloc_old _ hsz)).block (hb.block _ (by simp; omega))); have BK := Aside0.mk (blk_below (blk_new wr _) hb); clear hb; have hcz0 : w17.cell? ⟨wr.heap.size, 0, none⟩ = some (.int .i64 x.f0) := (blk_cell BK.out 0).trans rfl; have hcz3 : w17.cell? ⟨wr.heap.size, 3, none⟩ = some (.int .i64 x.f3) := (blk_cell BK.out 3).trans rfl) | go_in)
        go_ret
        exact ⟨by rw [HE.out, HST.out]; simp [hcan], below_then (below_alloc HB.out _) (by have := HB.out.size; simp; omega) HB2.out⟩
      | true =>
        by_cases hrk : x.f3 ≤ rank
        · have hrd : decide (x.f3 ≤ rank) = true := decide_eq_true hrk
          have HD : Aside0 (decide (rank < x.f3) = false) := ⟨decide_eq_false (by omega)⟩
          clear hrk
          go_wp2_with (first | (go_at_call 35; (with_reducible refine (plan_can.calls _ _ _ _ _ _ _ _ _ x.f7 true _ ?side1 ?side2 ((can_f x).trans (by rw [hcan]))).mono ?_); (case side1 => repeat (first | exact G7.out | (with_reducible refine Kd.C_alloc ?_ _))); (case side2 => exact L7.out); rintro e w17 ⟨rfl, hb⟩; have HB2 := Aside0.mk hb; have HM2 := Aside0.mk ((HM.out.block (blk_alloc_old _ hsz)).block (hb.block _ (by simp; omega))); have BK := Aside0.mk (blk_below (blk_new wr _) hb); clear hb; have hcz0 : w17.cell? ⟨wr.heap.size, 0, none⟩ = some (.int .i64 x.f0) := (blk_cell BK.out 0).trans rfl; have hcz3 : w17.cell? ⟨wr.heap.size, 3, none⟩ = some (.int .i64 x.f3) := (blk_cell BK.out 3).trans rfl) | go_in)
          go_ret
          exact ⟨by rw [HE.out, HST.out]; simp [HD.out], below_then (below_alloc HB.out _) (by have := HB.out.size; simp; omega) HB2.out⟩
        · have hrd : decide (x.f3 ≤ rank) = false := decide_eq_false hrk
          have HD : Aside0 (decide (rank < x.f3) = true) := ⟨decide_eq_true (by omega)⟩
          clear hrk
          by_cases hmt : met.contains x.f0 = true
          · have hmet := Aside0.mk hmt
            clear hmt
            go_wp2_with (first | (go_at_call 35; (with_reducible refine (plan_can.calls _ _ _ _ _ _ _ _ _ x.f7 true _ ?side1 ?side2 ((can_f x).trans (by rw [hcan]))).mono ?_); (case side1 => repeat (first | exact G7.out | (with_reducible refine Kd.C_alloc ?_ _))); (case side2 => exact L7.out); rintro e w17 ⟨rfl, hb⟩; have HB2 := Aside0.mk hb; have HM2 := Aside0.mk ((HM.out.block (blk_alloc_old _ hsz)).block (hb.block _ (by simp; omega))); have BK := Aside0.mk (blk_below (blk_new wr _) hb); clear hb; have hcz0 : w17.cell? ⟨wr.heap.size, 0, none⟩ = some (.int .i64 x.f0) := (blk_cell BK.out 0).trans rfl; have hcz3 : w17.cell? ⟨wr.heap.size, 3, none⟩ = some (.int .i64 x.f3) := (blk_cell BK.out 3).trans rfl) | ((with_reducible refine gate_dst (N := 27) rfl ?_); refine gate_guard (by rfl) ?_; refine wp_look rfl (.tmp 24) (.tmp 26) 51 rfl w.heap.size _ (.bool true) rfl rfl (HM2.out.look' (canB_wf hcan) hmet.out) ?_) | go_in)
            go_ret
            exact ⟨by rw [HE.out, HST.out]; simp only [hmet.out]; simp, below_then (below_alloc HB.out _) (by have := HB.out.size; simp; omega) HB2.out⟩
          · have hmet := Aside0.mk (Bool.eq_false_iff.2 hmt)
            clear hmt
            go_wp2_with (first | (go_at_call 35; (with_reducible refine (plan_can.calls _ _ _ _ _ _ _ _ _ x.f7 true _ ?side1 ?side2 ((can_f x).trans (by rw [hcan]))).mono ?_); (case side1 => repeat (first | exact G7.out | (with_reducible refine Kd.C_alloc ?_ _))); (case side2 => exact L7.out); rintro e w17 ⟨rfl, hb⟩; have HB2 := Aside0.mk hb; have HM2 := Aside0.mk ((HM.out.block (blk_alloc_old _ hsz)).block (hb.block _ (by simp; omega))); have BK := Aside0.mk (blk_below (blk_new wr _) hb); clear hb; have hcz0 : w17.cell? ⟨wr.heap.size, 0, none⟩ = some (.int .i64 x.f0) := (blk_cell BK.out 0).trans rfl; have hcz3 : w17.cell? ⟨wr.heap.size, 3, none⟩ = some (.int .i64 x.f3) := (blk_cell BK.out 3).trans rfl) | ((with_reducible refine gate_dst (N := 27) rfl ?_); refine gate_guard (by rfl) ?_; refine wp_look rfl (.tmp 24) (.tmp 26) 51 rfl w.heap.size _ (.bool false) rfl rfl (HM2.out.look' (canB_wf hcan) hmet.out) ?_) | ((with_reducible refine gate_mapu rfl ?_); refine wp_met rfl (.tmp 29) (.tmp 31) _ rfl w.heap.size k met rfl HM2.out (by unfold maxLen; omega) x.f0 rfl rfl (canB_wf hcan) ?_; intro w18 hm18 hg18; have HM3 := Aside0.mk hm18; have HG3 := Aside0.mk hg18; clear hm18 hg18; have hcz3 : w18.cell? ⟨wr.heap.size, 3, none⟩ = some (.int .i64 x.f3) := (blk_cell (blk_grown BK.out HG3.out (by intro q; injection q with q; omega)) 3).trans rfl) | go_in)
            go_roundw
            case rel =>
              refine ⟨k + 1, x.f3, met ++ [x.f0], by omega, by go_num, rfl, ⟨?_⟩, HM3, ⟨?_⟩⟩
              · rw [HE.out, HST.out, hcan, HD.out, hmet.out]
                rfl
              · have hb3 : Below w.heap.size w w17 := below_then (below_alloc HB.out _) (by have := HB.out.size; simp; omega) HB2.out
                exact hb3.grown HG3.out hb3.size (fun j hj => by cases hj; exact Nat.le_refl _)
            case measure => simp [intOf]; omega
    · obtain rfl : k = l0.length := by omega
      go_wp2
      go_ret
      exact ⟨by rw [HE.out, List.drop_length]; rfl, HB.out⟩
end Go.Proofs.Ythjfffgddegmoaa.PA

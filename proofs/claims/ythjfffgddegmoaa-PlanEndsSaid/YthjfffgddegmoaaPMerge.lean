/- Contracts of plan's functions that go by function values: Merge: which three blocks are to be made one. -/
import Derived.Test.YthjfffgddegmoaaPA0
import Derived.Test.YthjfffgddegmoaaGW
import Derived.Test.YthjfffgddegmoaaPGone
import Derived.Deep.DeepMust
namespace Go.Proofs.Ythjfffgddegmoaa.PA
open Go.RowKit Go.Proofs.Ythjfffgddegmoaa.G Go.Proofs.YthjfffgddegmoaaW.PrintWords Go.Proofs.YthjfffgddegmoaaW.PrintLast Go.Proofs.YthjfffgddegmoaaW.PrintMore
set_option linter.unusedVariables false
set_option linter.unusedSimpArgs false

/-- three neighbours are to be one -/
def three (a b c : S30) : Bool := decide (a.f2 = b.f2) && decide (b.f2 = c.f2) && decide (a.f2 < 3)
/-- the numbers of the first three that are -/
def mergeL : List S30 → List Int
  | a :: b :: c :: r => if three a b c = true then [a.f0, b.f0, c.f0] else mergeL (b :: c :: r)
  | _ => []
def plan_Merge.f (l : List S30) : Option (List Int) := if l.length ≤ 1000000 then some (mergeL l) else none

theorem rd_nat (l : List S30) (k : Nat) (hk : k < l.length) : rd_T30 l (k : Int) = l[k] := by simp [rd_T30, List.getD_eq_getElem?_getD, List.getElem?_eq_getElem hk]
theorem mergeL_step (l : List S30) (k : Nat) (hk : k + 2 < l.length) : mergeL (l.drop k) = if three (rd_T30 l (k : Int)) (rd_T30 l ((k + 1 : Nat) : Int)) (rd_T30 l ((k + 2 : Nat) : Int)) = true then [(rd_T30 l (k : Int)).f0, (rd_T30 l ((k + 1 : Nat) : Int)).f0, (rd_T30 l ((k + 2 : Nat) : Int)).f0] else mergeL (l.drop (k + 1)) := by
  rw [rd_nat l k (by omega), rd_nat l (k + 1) (by omega), rd_nat l (k + 2) (by omega), List.drop_eq_getElem_cons (show k < l.length by omega), List.drop_eq_getElem_cons (show k + 1 < l.length by omega), List.drop_eq_getElem_cons (show k + 1 + 1 < l.length by omega)]
  rw [mergeL]
theorem mergeL_end (l : List S30) (k : Nat) (hk : l.length ≤ k + 2) : mergeL (l.drop k) = [] := by
  have : (l.drop k).length ≤ 2 := by rw [List.length_drop]; omega
  match l.drop k, this with
  | [], _ => rfl
  | [_], _ => rfl
  | [_, _], _ => rfl
  | _ :: _ :: _ :: _, h => simp at h

theorem cell_alloc_old {w : World} {a : Addr} {v : Value} (o : Obj) (h : w.cell? a = some v) : (w.alloc o).cell? a = some v := by
  have hlt : a.block < w.heap.size := by
    rcases Nat.lt_or_ge a.block w.heap.size with q | q
    · exact q
    · unfold World.cell? at h
      rw [Array.getElem?_eq_none (by omega)] at h
      cases h
  have := (below_alloc (Below.refl w.heap.size w) o).block a.block hlt
  unfold World.cell? at h ⊢
  rw [this]
  exact h
set_option maxHeartbeats 2000000 in
set_option maxRecDepth 100000 in
theorem chosen_all.calls (A0 : Option Addr) (c0 n : Nat) (l0 : List (S30)) (w : World) (hn : l0.length = n) (hr0 : Kd.C k30 w A0 l0.length l0) (hlen : l0.length ≤ 1000000) :
    Calls Try.prog 31 #[.slice A0 n c0, .func (.func 37) #[] #[], .func (.func 33) #[] #[]] w fun e w' => ∃ v0_ : Value, e = .returned (v0_) ∧ Kd.R (Kd.int .i64) 3 w' w.heap.size (fun _ => True) v0_ (l0.map (·.f0)) ∧ Below w.heap.size w w' := by
  subst hn
  have HR := Aside0.mk hr0
  clear hr0
  go_enter Try.func31, Try.ntmps31
  go_wp2_with (first | go_in)
  go_loopw [7, 12] (fun v i wr => ∃ k : Nat, k ≤ l0.length ∧ i = .int .i64 k ∧ Aside0 (Kd.R (Kd.int .i64) 3 wr w.heap.size (fun _ => True) v ((l0.take k).map (·.f0))) ∧ Aside0 (Below w.heap.size w wr)) (fun _ i _ => l0.length - (intOf i).toNat)
  case atStart => exact ⟨0, Nat.zero_le _, rfl, ⟨Kd.R_nil _ _ _ _ _⟩, ⟨Below.refl _ _⟩⟩
  case round =>
    obtain ⟨k, hk, rfl, HO, HB⟩ := hrel
    by_cases hlt : k < l0.length
    · have hC := Kd.C_below HR.out HB.out
      obtain ⟨ad, A7, c7, rfl, h0, h1, h2, h3, h4, h5, h6, h7, _, _⟩ := at_T30 hC (k : Int) (by omega) (by omega)
      rw [Int.toNat_natCast] at h0 h1 h2 h3 h4 h5 h6 h7
      have HST : Aside0 ((l0.take (k + 1)).map (·.f0) = (l0.take k).map (·.f0) ++ [(rd_T30 l0 (k : Int)).f0]) := ⟨by rw [List.take_succ_eq_append_getElem hlt, List.map_append, rd_nat l0 k hlt]; rfl⟩
      have HSL : Aside0 (((l0.take k).map (·.f0)).length ≤ k) := ⟨by rw [List.length_map, List.length_take]; omega⟩
      clear hC
      generalize rd_T30 l0 (k : Int) = x at h0 h1 h2 h3 h4 h5 h6 h7 HST
      go_wp2_with (first | ((with_reducible refine gate_dst (N := 24) rfl ?_); go_must (refine Kd.R_append_row (w0 := w) (Value.int .i64) 0 (h1 := fun _ => rfl) w.heap.size rfl (.tmp 19) (.tmp 23) 27 3 (.int .i64 0) 8 rfl Try.underlying27 info3 rfl (by decide) u7 ((l0.take k).map (·.f0)) [x.f0] _ 1 _ (fun _ => True) rfl rfl ?h1 ?h2 (C_lit_at (Value.int .i64) 0 (h1 := fun _ => rfl) _ 3 #[.int .i64 x.f0] (0, 0) [x.f0] _ 1 rfl (by simp) ?h7 rfl) ?h4 ?h5 ?h6 ?_); (case h1 => (intros; trivial)); (case h2 => ((with_reducible repeat (first | apply Kd.R_alloc | apply Kd.R_drewN | apply Kd.R_drew)); exact HO.out)); (case h4 => (repeat (first | (with_reducible first | exact HB.out | apply below_alloc | apply pw_below_drewN | apply below_drew1) | exact HB.out))); (case h5 => (have := HB.out.size; simp; omega)); (case h7 => simp); (case h6 => (have := HSL.out; omega)); intro v4 w4 hR4 hB4 hg4 ho4; have HR4 := Aside0.mk hR4; have HB4 := Aside0.mk hB4; clear hR4 hB4 hg4 ho4) | go_in)
      go_roundw
      case rel =>
        refine ⟨k + 1, by omega, by go_num, ⟨?_⟩, HB4⟩
        rw [HST.out]
        exact HR4.out
      case measure => simp [intOf]; omega
    · obtain rfl : k = l0.length := by omega
      go_wp2
      rw [List.take_length] at HO
      go_ret
      exact ⟨_, rfl, HO.out, HB.out⟩
theorem take3_map (l : List S30) (k : Nat) (hk : k + 2 < l.length) : ((l.take (k + 3)).drop k).map (·.f0) = [(rd_T30 l (k : Int)).f0, (rd_T30 l ((k + 1 : Nat) : Int)).f0, (rd_T30 l ((k + 2 : Nat) : Int)).f0] := by
  have e : (l.take (k + 3)).drop k = [l[k], l[k + 1], l[k + 2]] := by
    rw [List.take_succ_eq_append_getElem (by omega : k + 2 < l.length), List.take_succ_eq_append_getElem (by omega : k + 1 < l.length), List.take_succ_eq_append_getElem (by omega : k < l.length), List.append_assoc, List.append_assoc, List.drop_left' (by rw [List.length_take]; omega)]
    rfl
  rw [rd_nat l k (by omega), rd_nat l (k + 1) (by omega), rd_nat l (k + 2) (by omega), e]
  rfl
theorem below_heap_old (w : World) (o : Obj) {b : Nat} (h : b < w.heap.size) : (w.alloc o).heap[b]? = w.heap[b]? := (below_alloc (Below.refl w.heap.size w) o).block b h
theorem blk3_0 (w : World) (o1 o2 o3 : Obj) : (((w.alloc o1).alloc o2).alloc o3).heap[w.heap.size]? = some o1 := by
  rw [below_heap_old, below_heap_old] <;> first | exact blk_new w o1 | (simp; omega) | simp
theorem blk3_1 (w : World) (o1 o2 o3 : Obj) : (((w.alloc o1).alloc o2).alloc o3).heap[w.heap.size + 1]? = some o2 := by
  rw [below_heap_old _ _ (by simp)]
  have := blk_new (w.alloc o1) o2
  simpa using this
theorem blk3_2 (w : World) (o1 o2 o3 : Obj) : (((w.alloc o1).alloc o2).alloc o3).heap[w.heap.size + 1 + 1]? = some o3 := by
  have := blk_new ((w.alloc o1).alloc o2) o3
  simpa using this
set_option maxHeartbeats 4000000 in
set_option maxRecDepth 100000 in
theorem plan_Merge.callsN (A0 : Option Addr) (c0 : Nat) (l0 : List (S30)) (r : List Int) (w : World) (hr0 : Kd.C k30 w A0 l0.length l0) (hc0 : l0.length ≤ c0) (h : plan_Merge.f l0 = some r) :
    Calls Try.prog 20 #[.slice A0 l0.length c0] w fun e w' => ∃ v0_ : Value, e = .returned (v0_) ∧ Kd.R (Kd.int .i64) 3 w' w.heap.size (fun _ => True) v0_ r ∧ Below w.heap.size w w' ∧ (r = [] → v0_ = .slice none 0 0) := by
  unfold plan_Merge.f at h
  split at h
  case isFalse => cases h
  case isTrue hlen =>
  obtain rfl := Option.some.inj h
  clear h
  have HR := Aside0.mk hr0
  clear hr0
  go_enter Try.func20, Try.ntmps20
  go_wp2
  go_loopw [3] (fun i wr => ∃ (k : Nat), k ≤ l0.length ∧ i = .int .i64 k ∧ Aside0 (mergeL l0 = mergeL (l0.drop k)) ∧ Aside0 (Below w.heap.size w wr)) (fun i _ => l0.length - (intOf i).toNat)
  case atStart => exact ⟨0, Nat.zero_le _, rfl, ⟨rfl⟩, ⟨Below.refl _ _⟩⟩
  case round =>
    obtain ⟨k, hk, rfl, HE, HB⟩ := hrel
    by_cases hlt : k + 2 < l0.length
    · have hC := Kd.C_below HR.out HB.out
      obtain ⟨ad, A7, c7, rfl, h0, h1, h2, h3, h4, h5, h6, h7, l7, g7⟩ := at_T30 hC (k : Int) (by omega) (by omega)
      obtain ⟨ad', B7, d7, hh, i0, i1, i2, i3, i4, i5, i6, i7, m7, n7⟩ := at_T30 hC ((k + 1 : Nat) : Int) (by omega) (by omega)
      obtain rfl := Option.some.inj hh
      obtain ⟨ad', D7, e7, hh2, j0, j1, j2, j3, j4, j5, j6, j7, o7, p7⟩ := at_T30 hC ((k + 2 : Nat) : Int) (by omega) (by omega)
      obtain rfl := Option.some.inj hh2
      have HST := Aside0.mk (mergeL_step l0 k hlt)
      have HL5 := Aside0.mk (take3_map l0 k hlt)
      clear g7 l7 m7 n7 o7 p7 hh hh2 h0 h1 h3 h4 h5 h6 h7 i0 i1 i3 i4 i5 i6 i7 j0 j1 j3 j4 j5 j6 j7
      rw [Int.toNat_natCast] at h2 i2 j2
      generalize hx : rd_T30 l0 (k : Int) = x at *
      generalize hy : rd_T30 l0 ((k + 1 : Nat) : Int) = y at *
      generalize hz : rd_T30 l0 ((k + 2 : Nat) : Int) = z at *
      have HX := Aside0.mk hx
      have HY := Aside0.mk hy
      have HZ := Aside0.mk hz
      have HCC := Aside0.mk hC
      clear hx hy hz hC
      rw [show ((k + 1 : Nat) : Int) = (k : Int) + 1 from by omega] at *
      have h2_1 := fun o1 => cell_alloc_old o1 h2
      have h2_2 := fun o1 o2 => cell_alloc_old o2 (h2_1 o1)
      have h2_3 := fun o1 o2 o3 => cell_alloc_old o3 (h2_2 o1 o2)
      have i2_1 := fun o1 => cell_alloc_old o1 i2
      have i2_2 := fun o1 o2 => cell_alloc_old o2 (i2_1 o1)
      have i2_3 := fun o1 o2 o3 => cell_alloc_old o3 (i2_2 o1 o2)
      have j2_1 := fun o1 => cell_alloc_old o1 j2
      have j2_2 := fun o1 o2 => cell_alloc_old o2 (j2_1 o1)
      have j2_3 := fun o1 o2 o3 => cell_alloc_old o3 (j2_2 o1 o2)
      go_wp2
      go_cut [4, 5, 6] (fun pa pb pc wx => ∃ a b c : Nat, pa = .pointer (some ⟨a, 0, none⟩) ∧ pb = .pointer (some ⟨b, 0, none⟩) ∧ pc = .pointer (some ⟨c, 0, none⟩) ∧ Aside0 (wx.heap[a]? = some (.cells #[.int .i64 x.f2] 54 (0, 0)) ∧ wx.heap[b]? = some (.cells #[.int .i64 y.f2] 54 (0, 0)) ∧ wx.heap[c]? = some (.cells #[.int .i64 z.f2] 54 (0, 0)) ∧ Below wr.heap.size wr wx))
      case first =>
        go_region
        all_goals (go_wp2_with fail; go_meet; refine ⟨_, _, _, rfl, rfl, rfl, ⟨?_, ?_, ?_, ?_⟩⟩)
        all_goals first
          | exact blk3_0 _ _ _ _
          | exact blk3_1 _ _ _ _
          | exact blk3_2 _ _ _ _
          | exact below_drew1 (below_alloc (below_alloc (below_alloc (Below.refl _ _) _) _) _)
          | (repeat (first | exact Below.refl _ _ | apply below_alloc | apply below_drew1))
      case rest =>
        clear h2_1 h2_2 h2_3 i2_1 i2_2 i2_3 j2_1 j2_2 j2_3
        obtain ⟨a, b, c, rfl, rfl, rfl, HH⟩ := hcut
        have ha := blk_cell HH.out.1 0
        have hb := blk_cell HH.out.2.1 0
        have hc := blk_cell HH.out.2.2.1 0
        have HB2 := Aside0.mk (below_step HB.out HH.out.2.2.2)
        obtain ⟨i05, hi05, _, hsz5, _⟩ := info_parts info30
        have hcut5 := cut_mid (P := Try.prog) 25 30 .i64 .i64 Try.underlying25 hi05 8 hsz5 (some ad) l0.length c0 (k : Int) ((k : Int) + 3) (by omega) (by omega) (by omega) hc0
        have hm5 := Kd.C_mid (c := c0) (lo := k) (hi := k + 3) (Kd.C_below HCC.out HH.out.2.2.2) (by omega) (by omega) hc0
        have HM5 := Aside0.mk hm5
        have HL6 : Aside0 (((l0.take (k + 3)).drop k).length = 3) := ⟨by rw [List.length_drop, List.length_take]; omega⟩
        clear hm5
        by_cases e1 : x.f2 = y.f2
        · by_cases e2 : y.f2 = z.f2
          · by_cases e3 : x.f2 < 3
            · have HN : Aside0 (three x y z = true) := ⟨by simp [three, e1, e2]; omega⟩
              have e1b : (x.f2 == y.f2) = true := beq_iff_eq.2 e1
              have e2b : (y.f2 == z.f2) = true := beq_iff_eq.2 e2
              have e3b : decide (x.f2 < 3) = true := decide_eq_true e3
              clear e1 e2 e3
              go_wp2_with (first | (go_at_call 31; (with_reducible refine (chosen_all.calls _ _ _ ((l0.take (k + 3)).drop k) _ HL6.out ?s1 ?s2).mono ?_); (case s2 => (have := HL6.out; omega)); (case s1 => (have h5 := HM5.out; rw [if_neg (by omega)] at h5; exact h5)); rintro e w9 ⟨v9, rfl, hr9, hb9⟩; have HR9 := Aside0.mk hr9; have HB9 := Aside0.mk hb9; clear hr9 hb9))
              go_ret
              refine ⟨_, rfl, ?_, below_step HB2.out HB9.out, fun q => ?_⟩
              · rw [HE.out, HST.out, if_pos HN.out, ← HL5.out]
                exact Kd.R_lower HR9.out HB2.out.size
              · rw [HE.out, HST.out, if_pos HN.out] at q
                cases q
            · have HN : Aside0 (¬ three x y z = true) := ⟨by simp [three, e1, e2]; omega⟩
              have e1b : (x.f2 == y.f2) = true := beq_iff_eq.2 e1
              have e2b : (y.f2 == z.f2) = true := beq_iff_eq.2 e2
              have e3b : decide (x.f2 < 3) = false := decide_eq_false e3
              clear e1 e2 e3
              go_wp2
              go_roundw
              case rel => exact ⟨k + 1, by omega, by go_num, ⟨by rw [HE.out, HST.out, if_neg HN.out]⟩, HB2⟩
              case measure => simp [intOf]; omega
          · have HN : Aside0 (¬ three x y z = true) := ⟨by simp [three, e2]⟩
            have e1b : (x.f2 == y.f2) = true := beq_iff_eq.2 e1
            have e2b : (y.f2 == z.f2) = false := beq_eq_false_iff_ne.2 e2
            clear e1 e2
            go_wp2
            go_roundw
            case rel => exact ⟨k + 1, by omega, by go_num, ⟨by rw [HE.out, HST.out, if_neg HN.out]⟩, HB2⟩
            case measure => simp [intOf]; omega
        · have HN : Aside0 (¬ three x y z = true) := ⟨by simp [three, e1]⟩
          have e1b : (x.f2 == y.f2) = false := beq_eq_false_iff_ne.2 e1
          clear e1
          go_wp2
          go_roundw
          case rel => exact ⟨k + 1, by omega, by go_num, ⟨by rw [HE.out, HST.out, if_neg HN.out]⟩, HB2⟩
          case measure => simp [intOf]; omega
    · go_wp2
      go_ret
      exact ⟨_, rfl, by rw [HE.out, mergeL_end l0 k (by omega)]; exact Kd.R_nil _ _ _ _ _, HB.out, fun _ => rfl⟩
theorem plan_Merge.calls (A0 : Option Addr) (c0 : Nat) (l0 : List (S30)) (r : List Int) (w : World) (hr0 : Kd.C k30 w A0 l0.length l0) (hc0 : l0.length ≤ c0) (h : plan_Merge.f l0 = some r) :
    Calls Try.prog 20 #[.slice A0 l0.length c0] w fun e w' => ∃ v0_ : Value, e = .returned (v0_) ∧ Kd.R (Kd.int .i64) 3 w' w.heap.size (fun _ => True) v0_ r ∧ Below w.heap.size w w' :=
  (plan_Merge.callsN A0 c0 l0 r w hr0 hc0 h).mono fun e w' ⟨v, he, hr, hb, _⟩ => ⟨v, he, hr, hb⟩
end Go.Proofs.Ythjfffgddegmoaa.PA

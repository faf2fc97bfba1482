/- Lemmas and contracts: slices.Equal of bytes at lengths of their own; the first 200 bytes. · What the reference reads of bits, as plain functions: take, takeInt, takeXor. · The reference's reading sample by sample: what holds of it; plain. · The contract of the reference's Decode: it is the program's answer. -/
import Derived.Test.YtpeekkpdglfbbaaDoorM3
import Derived.Test.YtpeekkpdglfbbaaDoorM1
import Derived.Test.YtpeekkpdglfbbaaDoorM2
import Derived.Test.YtpeekkpdglfbbaaDoorM4
import Derived.Deep.RegionHeld3
namespace Go.Proofs.YtpeekkpdglfbbaaDoor.PA
open Go.RowKit Go.Proofs.YtpeekkpdglfbbaaDoor.G Go.Proofs.YtpeekkpdglfbbaaDoorW.PrintWords Go.Proofs.YtpeekkpdglfbbaaDoorW.PrintLast Go.Proofs.YtpeekkpdglfbbaaDoorW.PrintMore
set_option linter.unusedVariables false
set_option linter.unusedSimpArgs false
theorem EqualB_at {n m : Nat} (A0 : Option Addr) (c0 : Nat) (A1 : Option Addr) (c1 : Nat) (l : List Int) (w : World) (hn : l.length = n) (hm : l.length = m) (hr0 : Kd.C (Kd.int .u8) w A0 l.length l) (hc0 : n ≤ c0) (hr1 : Kd.C (Kd.int .u8) w A1 l.length l) (hc1 : m ≤ c1) (hl : l.length ≤ 1000000) :
    Calls Tryd.prog 14 #[.slice A0 n c0, .slice A1 m c1] w fun e w' => e = .returned (.bool true) ∧ Below w.heap.size w w' := by
  subst hn hm
  exact EqualB A0 c0 A1 c1 l w hr0 hc0 hr1 hc1 hl
theorem take200 {A : Option Addr} {b L : List Int} {w : World} (hr : Kd.C (Kd.int .u8) w A b.length b) (hL : b.take 200 = L) : Kd.C (Kd.int .u8) w A L.length L := by
  rw [← hL]
  have := Kd.C_take hr (show (b.take 200).length ≤ b.length by rw [List.length_take]; omega)
  rwa [show b.take (b.take 200).length = b.take 200 from by rw [List.length_take]; rcases Nat.le_total 200 b.length with h | h; rw [Nat.min_eq_left h]; rw [Nat.min_eq_right h, List.take_length, List.take_of_length_le h]] at this
end Go.Proofs.YtpeekkpdglfbbaaDoor.PA
-- written by wip/gprint.py of this session (it runs the print of the guide's kit over contracts of the session)
namespace Go.Proofs.YtpeekkpdglfbbaaDoor.PA
open Go.RowKit Go.Proofs.YtpeekkpdglfbbaaDoorW.PrintWords Go.Proofs.YtpeekkpdglfbbaaDoorW.PrintLast Go.Proofs.YtpeekkpdglfbbaaDoorW.PrintMore
attribute [local go_sem] max2_int min2_int max_two min_two max_three min_three max_four min_four   -- for this text's walks alone
set_option linter.unusedVariables false
set_option linter.unusedSimpArgs false

/-- A state of type 61 at block g of W; what its slices lead to came in by w0. -/
def IsS61 (w0 W : World) (g : Nat) (f0 : List Int) (f1 : Int) (f2 : Bool) : Prop := ∃ A0 c0, W.heap[g]? = some (.cells #[.slice A0 f0.length c0, .int .i64 f1, .bool f2] 61 (0, 0)) ∧ w0.heap.size ≤ g ∧ Kd.C (Kd.int .u8) w0 A0 f0.length f0
theorem IsS61.grown {w0 W : World} {g : Nat} {f0 : List Int} {f1 : Int} {f2 : Bool} {W1 : World} {row : Option Nat} (h : IsS61 w0 W g f0 f1 f2) (hw : W.grownBy W1 row) (hne : some g ≠ row) : IsS61 w0 W1 g f0 f1 f2 := by
  obtain ⟨A0, c0, hb, hg, hr0⟩ := h
  exact ⟨A0, c0, blk_grown hb hw hne, hg, hr0⟩
theorem IsS61.own_neN {w0 W : World} {g : Nat} {f0 : List Int} {f1 : Int} {f2 : Bool} {α : Type} {d : Kd α} {e : Nat} {base : Nat} {ok : Nat → Prop} {v : Value} {xs : List α} (h : IsS61 w0 W g f0 f1 f2) (ho : Kd.N d e W base ok v xs) (ht : e ≠ 61) : some g ≠ v.ownBlock := by
  obtain ⟨A0, c0, hb, hg, hr0⟩ := h
  exact Kd.N_ne ho hb ht
theorem IsS61.fresh {w0 W : World} {g : Nat} {f0 : List Int} {f1 : Int} {f2 : Bool} (h : IsS61 w0 W g f0 f1 f2) : ∀ k, W.heap.size ≤ k → k ≠ g := by
  obtain ⟨A0, c0, hb, hg, hr0⟩ := h
  exact Kd.freshB hb
theorem IsS61.kept {w0 W : World} {g : Nat} {f0 : List Int} {f1 : Int} {f2 : Bool} {W1 : World} {S : Nat → Prop} (h : IsS61 w0 W g f0 f1 f2) (hk : Kept W W1 S) (hne : ¬ S g) : IsS61 w0 W1 g f0 f1 f2 := by
  obtain ⟨A0, c0, hb, hg, hr0⟩ := h
  exact ⟨A0, c0, blk_kept hb hk hne, hg, hr0⟩
theorem IsS61.below {w0 W : World} {g : Nat} {f0 : List Int} {f1 : Int} {f2 : Bool} {W1 : World} (h : IsS61 w0 W g f0 f1 f2) (hw : Below W.heap.size W W1) : IsS61 w0 W1 g f0 f1 f2 := h.grown (grown_of_below hw none) (by simp)
theorem IsS61.alloc {w0 W : World} {g : Nat} {f0 : List Int} {f1 : Int} {f2 : Bool} (h : IsS61 w0 W g f0 f1 f2) (o : Obj) : IsS61 w0 (W.alloc o) g f0 f1 f2 := h.below (below_alloc (Below.refl _ _) o)
theorem IsS61.drewN {w0 W : World} {g : Nat} {f0 : List Int} {f1 : Int} {f2 : Bool} (h : IsS61 w0 W g f0 f1 f2) (m : Nat) : IsS61 w0 (W.drewN m) g f0 f1 f2 := h
theorem IsS61.drew {w0 W : World} {g : Nat} {f0 : List Int} {f1 : Int} {f2 : Bool} (h : IsS61 w0 W g f0 f1 f2) : IsS61 w0 W.drew g f0 f1 f2 := h
theorem IsS61.at_ {w0 W : World} {g : Nat} {f0 : List Int} {f1 : Int} {f2 : Bool} {w' : World} {m : Nat} (hq : W.drewN m = w') (h : IsS61 w0 W g f0 f1 f2) : IsS61 w0 w' g f0 f1 f2 := by subst hq; exact IsS61.drewN h m
theorem IsS61.apart {w0 W : World} {g : Nat} {f0 : List Int} {f1 : Int} {f2 : Bool} {α : Type} {d : Kd α} {e : Nat} {base : Nat} {ok : Nat → Prop} {v : Value} {xs : List α} (h : IsS61 w0 W g f0 f1 f2) (ho : d.R e W base ok v xs) (ht : ∀ q, q ∈ e :: d.E → q ≠ 61) : d.R e W base (fun k => ok k ∧ k ≠ g) v xs := by
  obtain ⟨A0, c0, hb, hg, hr0⟩ := h
  exact Kd.R_types ho hb ht
theorem IsS61.own_ne {w0 W : World} {g : Nat} {f0 : List Int} {f1 : Int} {f2 : Bool} {α : Type} {d : Kd α} {e : Nat} {base : Nat} {ok : Nat → Prop} {v : Value} {xs : List α} (h : IsS61 w0 W g f0 f1 f2) (ho : d.R e W base ok v xs) (ht : e ≠ 61) : some g ≠ v.ownBlock := by
  obtain ⟨A0, c0, hb, hg, hr0⟩ := h
  exact Kd.R_ne ho hb ht
theorem IsS61.apartQ {w0 W : World} {g : Nat} {f0 : List Int} {f1 : Int} {f2 : Bool} {α : Type} {d : Kd α} {e : Nat} {base : Nat} {ok : Nat → Prop} {v : Value} {xs : List α} (h : IsS61 w0 W g f0 f1 f2) (ho : d.Q e W base ok v xs) (ht : ∀ q, q ∈ e :: d.E → q ≠ 61) : d.Q e W base (fun k => ok k ∧ k ≠ g) v xs := by
  obtain ⟨A0, c0, hb, hg, hr0⟩ := h
  exact Kd.Q_types ho hb ht
theorem IsS61.own_neQ {w0 W : World} {g : Nat} {f0 : List Int} {f1 : Int} {f2 : Bool} {α : Type} {d : Kd α} {e : Nat} {base : Nat} {ok : Nat → Prop} {v : Value} {xs : List α} (h : IsS61 w0 W g f0 f1 f2) (ho : d.Q e W base ok v xs) (ht : e ≠ 61) : some g ≠ v.ownBlock := by
  obtain ⟨A0, c0, hb, hg, hr0⟩ := h
  exact Kd.Q_ne ho hb ht
theorem IsS61.apartS {w0 W : World} {g : Nat} {f0 : List Int} {f1 : Int} {f2 : Bool} {α : Type} {d : Kd α} {e : Nat} {base : Nat} {ok : Nat → Prop} {v : Value} {xs : List α} (h : IsS61 w0 W g f0 f1 f2) (ho : d.S e W base ok v xs) (ht : ∀ q, q ∈ e :: d.E → q ≠ 61) : d.S e W base (fun k => ok k ∧ k ≠ g) v xs := by
  obtain ⟨A0, c0, hb, hg, hr0⟩ := h
  exact Kd.S_types ho hb ht
theorem IsS61.own_neS {w0 W : World} {g : Nat} {f0 : List Int} {f1 : Int} {f2 : Bool} {α : Type} {d : Kd α} {e : Nat} {base : Nat} {ok : Nat → Prop} {v : Value} {xs : List α} (h : IsS61 w0 W g f0 f1 f2) (ho : d.S e W base ok v xs) (ht : e ≠ 61) : some g ≠ v.ownBlock := by
  obtain ⟨A0, c0, hb, hg, hr0⟩ := h
  exact Kd.S_ne ho hb ht
theorem IsS61.lt {w0 W : World} {g : Nat} {f0 : List Int} {f1 : Int} {f2 : Bool} (h : IsS61 w0 W g f0 f1 f2) : g < W.heap.size := by
  obtain ⟨A0, c0, hb, hg, hr0⟩ := h
  exact blk_lt hb
theorem IsS61.ge {w0 W : World} {g : Nat} {f0 : List Int} {f1 : Int} {f2 : Bool} (h : IsS61 w0 W g f0 f1 f2) : w0.heap.size ≤ g := by
  obtain ⟨A0, c0, hb, hg, hr0⟩ := h
  exact hg
theorem IsS61.ne_blk {w0 W : World} {g : Nat} {f0 : List Int} {f1 : Int} {f2 : Bool} {a : Nat} {cs : Array Value} {t : TypeId} {fr : Nat × Nat} (h : IsS61 w0 W g f0 f1 f2) (hb2 : W.heap[a]? = some (.cells cs t fr)) (ht : t ≠ 61) : g ≠ a := by
  obtain ⟨A0, c0, hb, hg, hr0⟩ := h
  rintro rfl
  rw [hb] at hb2
  injection hb2 with hb2
  injection hb2 with _ ht2
  exact ht ht2.symm
theorem IsS61.far {w0 W : World} {g : Nat} {f0 : List Int} {f1 : Int} {f2 : Bool} {p : Addr} (h : IsS61 w0 W g f0 f1 f2) (hne : g ≠ p.block) (u : Value) : IsS61 w0 (W.setCell p u) g f0 f1 f2 := by
  obtain ⟨A0, c0, hb, hg, hr0⟩ := h
  exact ⟨A0, c0, blk_far hb hne u, hg, hr0⟩
theorem cellS61_0 {W : World} {g : Nat} {A0 : Option Addr} {c0 : Nat} {f0 : List Int} {f1 : Int} {f2 : Bool} (h : W.heap[g]? = some (.cells #[.slice A0 f0.length c0, .int .i64 f1, .bool f2] 61 (0, 0))) : W.cell? ⟨g, 0, none⟩ = some (.slice A0 f0.length c0) := (blk_cell h 0).trans rfl
theorem cellS61_1 {W : World} {g : Nat} {A0 : Option Addr} {c0 : Nat} {f0 : List Int} {f1 : Int} {f2 : Bool} (h : W.heap[g]? = some (.cells #[.slice A0 f0.length c0, .int .i64 f1, .bool f2] 61 (0, 0))) : W.cell? ⟨g, 1, none⟩ = some (.int .i64 f1) := (blk_cell h 1).trans rfl
theorem IsS61.set_1 {w0 W : World} {g : Nat} {f0 : List Int} {f1 : Int} {f2 : Bool} (h : IsS61 w0 W g f0 f1 f2) (x : Int) : IsS61 w0 (W.setCell ⟨g, 1, none⟩ (.int .i64 x)) g f0 x f2 := by
  obtain ⟨A0, c0, hb, hg, hr0⟩ := h
  exact ⟨A0, c0, by simpa using blk_set hb 1 (.int .i64 x), hg, hr0⟩
theorem cellS61_2 {W : World} {g : Nat} {A0 : Option Addr} {c0 : Nat} {f0 : List Int} {f1 : Int} {f2 : Bool} (h : W.heap[g]? = some (.cells #[.slice A0 f0.length c0, .int .i64 f1, .bool f2] 61 (0, 0))) : W.cell? ⟨g, 2, none⟩ = some (.bool f2) := (blk_cell h 2).trans rfl
theorem IsS61.set_2 {w0 W : World} {g : Nat} {f0 : List Int} {f1 : Int} {f2 : Bool} (h : IsS61 w0 W g f0 f1 f2) (x : Bool) : IsS61 w0 (W.setCell ⟨g, 2, none⟩ (.bool x)) g f0 f1 x := by
  obtain ⟨A0, c0, hb, hg, hr0⟩ := h
  exact ⟨A0, c0, by simpa using blk_set hb 2 (.bool x), hg, hr0⟩
theorem IsS61.new (w0 W : World) (A0 : Option Addr) (c0 : Nat) (f0 : List Int) (f1 : Int) (f2 : Bool) (hB : Below w0.heap.size w0 W) (hr0 : Kd.C (Kd.int .u8) w0 A0 f0.length f0) : IsS61 w0 (W.alloc (.cells #[.slice A0 f0.length c0, .int .i64 f1, .bool f2] 61)) W.heap.size f0 f1 f2 := ⟨A0, c0, by simpa using heap_alloc_new W _, hB.size, hr0⟩

/-! ### dryrotref11_in_take: function 31 -/
def dryrotref11_in_take.l0 : Nat → Int → Int → Int → List Int → Int → Bool → Option (Int × Int × Bool)
  | 0, _, _, _, _, _, _ => none
  | k + 1, x5, x6, x7, x1000, x1001, x1002 => if x7 < x6 then (if x1001 ≥ (wrap64 (8 * (x1000.length : Int))) then (some (0, x1001, true)) else (if 0 ≤ (wrap64 (Int.tdiv x1001 8)) then (if (wrap64 (Int.tdiv x1001 8)) < (x1000.length : Int) then (if 0 ≤ (wrap64 (7 - (Int.tmod x1001 8))) then (dryrotref11_in_take.l0 k (IntKind.u64.wrap ((IntKind.u64.wrap (x5 * 2)) + (IntKind.u64.wrap (Go.bits .and .u8 (shr .u8 (rd x1000 (wrap64 (Int.tdiv x1001 8))) (wrap64 (7 - (Int.tmod x1001 8)))) 1)))) x6 (wrap64 (x7 + 1)) x1000 (wrap64 (x1001 + 1)) x1002) else (none)) else (none)) else (none))) else (some (x5, x1001, x1002))
def dryrotref11_in_take.f (k : Nat) (s0_0 : List Int) (s0_1 : Int) (s0_2 : Bool) (a1 : Int) : Option (Int × Int × Bool) := dryrotref11_in_take.l0 k 0 a1 0 s0_0 s0_1 s0_2
theorem dryrotref11_in_take.mono_l : ∀ k, (∀ y0 y1 y2 y3 y4 y5, LeO (dryrotref11_in_take.l0 k y0 y1 y2 y3 y4 y5) (dryrotref11_in_take.l0 (k + 1) y0 y1 y2 y3 y4 y5))
  | 0 => fun _ _ _ _ _ _ r h => by simp [dryrotref11_in_take.l0] at h
  | k + 1 => by
    have ih0 := dryrotref11_in_take.mono_l k
    · intro y0 y1 y2 y3 y4 y5
      unfold dryrotref11_in_take.l0
      repeat' first
      | (with_reducible exact ih0 _ _ _ _ _ _)
      | (with_reducible exact LeO.refl _)
      | (with_reducible exact LeO.none _)
      | (with_reducible refine LeO.ite ?_ ?_)
      | (with_reducible refine LeO.bind ?_ (fun _ => ?_))
      | exact ih0 _ _ _ _ _ _
      | exact LeO.none _
      | refine LeO.ite ?_ ?_
      | refine LeO.bind ?_ (fun _ => ?_)
theorem dryrotref11_in_take.mono : ∀ a0 a1 a2 a3 k, LeO (dryrotref11_in_take.f k a0 a1 a2 a3) (dryrotref11_in_take.f (k + 1) a0 a1 a2 a3) := by
  intro a0 a1 a2 a3 k
  have ih0 := dryrotref11_in_take.mono_l k
  unfold dryrotref11_in_take.f
  repeat' first
      | (with_reducible exact ih0 _ _ _ _ _ _)
      | (with_reducible exact LeO.refl _)
      | (with_reducible exact LeO.none _)
      | (with_reducible refine LeO.ite ?_ ?_)
      | (with_reducible refine LeO.bind ?_ (fun _ => ?_))
      | exact ih0 _ _ _ _ _ _
      | exact LeO.none _
      | refine LeO.ite ?_ ?_
      | refine LeO.bind ?_ (fun _ => ?_)
set_option maxHeartbeats 8000000 in
set_option maxRecDepth 100000 in
theorem dryrotref11_in_take.calls (k : Nat) (g : Nat) (s0_0 : List Int) (s0_1 : Int) (s0_2 : Bool) (a1 : Int) (r1 : Int) (r2 : Int) (r3 : Bool) (w0 w : World) (hI : IsS61 w0 w g s0_0 s0_1 s0_2) (hB : Below w0.heap.size w0 w) (h : dryrotref11_in_take.f k s0_0 s0_1 s0_2 a1 = some (r1, r2, r3)) :
    Calls Tryd.prog 31 #[.pointer (some ⟨g, 0, none⟩), .int .i64 a1] w fun e w' => e = .returned (.int .u64 r1) ∧ IsS61 w0 w' g s0_0 r2 r3 ∧ Below w0.heap.size w0 w' ∧ KeepBut w w' g none := by
  have HI0 := Aside0.mk hI
  have HK := Aside0.mk (KeepBut.refl w g none)
  have HL := Aside0.mk hB.size
  clear hI
  have HW0 := Aside0.mk hB.size
  have HB := Aside0.mk hB
  clear hB
  have H : (dryrotref11_in_take.l0 k 0 a1 0 s0_0 s0_1 s0_2) = some (r1, r2, r3) := h
  clear h
  have H' := Aside0.mk H
  clear H
  go_enter Tryd.func31, Tryd.ntmps31
  go_wp2
  repeat (go_quiet (fail); try go_wp2)
  go_loopg [5, 7] k (fun kq v5 v7 w' => ∃ (x5_1 : Int) (x7_1 : Int) (x1001_1 : Int) (x1002_1 : Bool), v5 = .int .u64 x5_1 ∧ v7 = .int .i64 x7_1 ∧ Aside0 (dryrotref11_in_take.l0 kq x5_1 a1 x7_1 s0_0 x1001_1 x1002_1 = some (r1, r2, r3)) ∧ Aside0 (kq ≤ k) ∧ Aside0 (IsS61 w0 w' g s0_0 x1001_1 x1002_1) ∧ Aside0 (KeepBut w w' g none) ∧ Aside0 (Below w0.heap.size w0 w'))
  case atStart => exact ⟨(0), (0), (s0_1), (s0_2), (by first | rfl | (simp; done) | (simp [*]; done)), (by first | rfl | (simp; done) | (simp [*]; done)), H', ⟨Nat.le_refl _⟩, ⟨by repeat (first | (with_reducible first | exact HI0.out | apply IsS61.alloc | apply IsS61.drewN | apply IsS61.drew | apply IsS61.set_1 | apply IsS61.set_2) | exact HI0.out)⟩, ⟨by repeat (first | (with_reducible first | exact HK.out | apply KeepBut.set_ | apply keep_drewN | apply keep_drew | apply keep_alloc) | exact HK.out)⟩, ⟨by repeat (first | (with_reducible first | exact HB.out | apply below_alloc | apply pw_below_drewN | apply below_drew1 | refine below_set ?_ (IsS61.ge HI0.out)) | exact HB.out)⟩⟩
  case round =>
    clear H'
    try clear p2
    obtain ⟨x5_1, x7_1, x1001_1, x1002_1, rfl, rfl, HA, HK1, HI0, HK, HB⟩ := hrel
    cases gk with
    | zero => exact absurd HA.out (by simp [dryrotref11_in_take.l0])
    | succ k1 =>
      have H := HA.out
      clear HA
      simp only [dryrotref11_in_take.l0] at H
      by_cases c3 : x7_1 < a1
      · rw [if_pos c3] at H
        have c3b0 : decide (x7_1 < a1) = true := decide_eq_true c3
        clear c3
        by_cases c4 : x1001_1 ≥ (wrap64 (8 * (s0_0.length : Int)))
        · rw [if_pos c4] at H
          have c4b0 : decide ((wrap64 (8 * (s0_0.length : Int))) ≤ x1001_1) = true := decide_eq_true c4
          clear c4
          simp only [Option.some.injEq, Prod.mk.injEq] at H
          obtain ⟨rfl, rfl, rfl⟩ := H
          obtain ⟨ASz5_0, cSz5_0, HGz5, hgz5, HSz5_0⟩ := HI0.out
          have hcz5_0 := cellS61_0 HGz5
          have hcz5_1 := cellS61_1 HGz5
          have hcz5_2 := cellS61_2 HGz5
          have hfz5_1 := blk_frozen HGz5 1
          have hfz5_2 := blk_frozen HGz5 2
          clear HGz5 hgz5
          go_wp2
          repeat (go_quiet (fail); try go_wp2)
          go_ret
          exact ⟨by first | rfl | (simp [errW_none, errW_some] <;> rfl) | (simp [*, errW_none, errW_some] <;> rfl), by repeat (first | (with_reducible first | exact HI0.out | apply IsS61.alloc | apply IsS61.drewN | apply IsS61.drew | apply IsS61.set_1 | apply IsS61.set_2) | exact HI0.out), by repeat (first | (with_reducible first | exact HB.out | apply below_alloc | apply pw_below_drewN | apply below_drew1 | refine below_set ?_ (IsS61.ge HI0.out)) | exact HB.out), by repeat (first | (with_reducible first | exact HK.out | apply KeepBut.set_ | apply keep_drewN | apply keep_drew | apply keep_alloc) | exact HK.out)⟩
        · rw [if_neg c4] at H
          have c4b0 : decide ((wrap64 (8 * (s0_0.length : Int))) ≤ x1001_1) = false := decide_eq_false c4
          clear c4
          obtain ⟨ji6, hji6⟩ : ∃ j_ : Int, (wrap64 (Int.tdiv x1001_1 8)) = j_ := ⟨_, rfl⟩
          replace H : (if 0 ≤ (ji6) then (if (ji6) < (s0_0.length : Int) then (if 0 ≤ (wrap64 (7 - (Int.tmod x1001_1 8))) then (dryrotref11_in_take.l0 k1 (IntKind.u64.wrap ((IntKind.u64.wrap (x5_1 * 2)) + (IntKind.u64.wrap (Go.bits .and .u8 (shr .u8 (rd s0_0 (ji6)) (wrap64 (7 - (Int.tmod x1001_1 8)))) 1)))) a1 (wrap64 (x7_1 + 1)) s0_0 (wrap64 (x1001_1 + 1)) x1002_1) else (none)) else (none)) else (none)) = some (r1, r2, r3) := by first | (rw [hji6] at H; exact H) | (simp only [hji6] at H ⊢; exact H)
          have hji6w : (IntKind.i64.wrap (Int.tdiv x1001_1 8)) = ji6 := (i64_w _).trans hji6
          by_cases c7 : 0 ≤ (ji6)
          · rw [if_pos c7] at H
            have c7b0 : decide (0 ≤ (ji6)) = true := decide_eq_true c7
            clear c7
            by_cases c8 : (ji6) < (s0_0.length : Int)
            · rw [if_pos c8] at H
              have c8b0 : decide ((ji6) < (s0_0.length : Int)) = true := decide_eq_true c8
              clear c8
              obtain ⟨ji9, hji9⟩ : ∃ j_ : Int, (wrap64 (7 - (Int.tmod x1001_1 8))) = j_ := ⟨_, rfl⟩
              replace H : (if 0 ≤ (ji9) then (dryrotref11_in_take.l0 k1 (IntKind.u64.wrap ((IntKind.u64.wrap (x5_1 * 2)) + (IntKind.u64.wrap (Go.bits .and .u8 (shr .u8 (rd s0_0 (ji6)) (ji9)) 1)))) a1 (wrap64 (x7_1 + 1)) s0_0 (wrap64 (x1001_1 + 1)) x1002_1) else (none)) = some (r1, r2, r3) := by first | (rw [hji9] at H; exact H) | (simp only [hji9] at H ⊢; exact H)
              have hji9w : (IntKind.i64.wrap (7 - (Int.tmod x1001_1 8))) = ji9 := (i64_w _).trans hji9
              by_cases c10 : 0 ≤ (ji9)
              · rw [if_pos c10] at H
                have c10b0 := eq_true c10
                have c10b1 : decide (0 ≤ (ji9)) = true := decide_eq_true c10
                clear c10
                obtain ⟨ji11, hji11⟩ : ∃ j_ : Int, (shr .u8 (rd s0_0 (ji6)) (ji9)) = j_ := ⟨_, rfl⟩
                replace H : (dryrotref11_in_take.l0 k1 (IntKind.u64.wrap ((IntKind.u64.wrap (x5_1 * 2)) + (IntKind.u64.wrap (Go.bits .and .u8 (ji11) 1)))) a1 (wrap64 (x7_1 + 1)) s0_0 (wrap64 (x1001_1 + 1)) x1002_1) = some (r1, r2, r3) := by first | (rw [hji11] at H; exact H) | (simp only [hji11] at H ⊢; exact H)
                have hji11_ : ((rd s0_0 (ji6)) / 2 ^ min (ji9).toNat 8) = ji11 := hji11
                have hji11z : (ji9) ≤ 8 → ((rd s0_0 (ji6)) / 2 ^ (ji9).toNat) = ji11 := shr_small hji11
                have H' := Aside0.mk H
                clear H
                obtain ⟨ASz12_0, cSz12_0, HGz12, hgz12, HSz12_0⟩ := HI0.out
                have hcz12_0 := cellS61_0 HGz12
                have hcz12_1 := cellS61_1 HGz12
                have hcz12_2 := cellS61_2 HGz12
                have hfz12_1 := blk_frozen HGz12 1
                have hfz12_2 := blk_frozen HGz12 2
                clear HGz12 hgz12
                have p191 : 0 ≤ ((ji6) : Int) := of_decide_eq_true (by first | (with_reducible assumption) | assumption)
                have q191 : (ji6) < (s0_0.length : Int) := of_decide_eq_true (by first | (with_reducible assumption) | assumption)
                obtain ⟨ad191, e191, hx191_0⟩ := Kd.at_int HSz12_0 (ji6) p191 q191
                cases e191
                replace hx191_0 := pw_cell_below HB.out hx191_0
                replace p191 := eq_true p191
                replace q191 := eq_true q191
                go_wp2
                repeat (go_quiet (fail); try go_wp2)
                go_roundg k1
                case measure => have := HK1.out; omega
                case rel => exact ⟨(IntKind.u64.wrap ((IntKind.u64.wrap (x5_1 * 2)) + (IntKind.u64.wrap (Go.bits .and .u8 (ji11) 1)))), (wrap64 (x7_1 + 1)), (wrap64 (x1001_1 + 1)), (x1002_1), (by first | rfl | (simp; done) | (simp only [← hji11] <;> (first | rfl | simp)) | (simp [*]; done)), (by first | rfl | (simp; done) | (simp [*]; done)), H', ⟨by have := HK1.out; omega⟩, ⟨by repeat (first | (with_reducible first | exact HI0.out | apply IsS61.alloc | apply IsS61.drewN | apply IsS61.drew | apply IsS61.set_1 | apply IsS61.set_2) | exact HI0.out)⟩, ⟨by repeat (first | (with_reducible first | exact HK.out | apply KeepBut.set_ | apply keep_drewN | apply keep_drew | apply keep_alloc) | exact HK.out)⟩, ⟨by repeat (first | (with_reducible first | exact HB.out | apply below_alloc | apply pw_below_drewN | apply below_drew1 | refine below_set ?_ (IsS61.ge HI0.out)) | exact HB.out)⟩⟩
              · rw [if_neg c10] at H
                exact absurd H (by simp)
            · rw [if_neg c8] at H
              exact absurd H (by simp)
          · rw [if_neg c7] at H
            exact absurd H (by simp)
      · rw [if_neg c3] at H
        have c3b0 : decide (x7_1 < a1) = false := decide_eq_false c3
        clear c3
        simp only [Option.some.injEq, Prod.mk.injEq] at H
        obtain ⟨rfl, rfl, rfl⟩ := H
        go_wp2
        repeat (go_quiet (fail); try go_wp2)
        go_ret
        exact ⟨by first | rfl | (simp [errW_none, errW_some] <;> rfl) | (simp [*, errW_none, errW_some] <;> rfl), by repeat (first | (with_reducible first | exact HI0.out | apply IsS61.alloc | apply IsS61.drewN | apply IsS61.drew | apply IsS61.set_1 | apply IsS61.set_2) | exact HI0.out), by repeat (first | (with_reducible first | exact HB.out | apply below_alloc | apply pw_below_drewN | apply below_drew1 | refine below_set ?_ (IsS61.ge HI0.out)) | exact HB.out), by repeat (first | (with_reducible first | exact HK.out | apply KeepBut.set_ | apply keep_drewN | apply keep_drew | apply keep_alloc) | exact HK.out)⟩

end Go.Proofs.YtpeekkpdglfbbaaDoor.PA
-- written by wip/gprint.py of this session (it runs the print of the guide's kit over contracts of the session)
namespace Go.Proofs.YtpeekkpdglfbbaaDoor.PA
open Go.RowKit Go.Proofs.YtpeekkpdglfbbaaDoorW.PrintWords Go.Proofs.YtpeekkpdglfbbaaDoorW.PrintLast Go.Proofs.YtpeekkpdglfbbaaDoorW.PrintMore
attribute [local go_sem] max2_int min2_int max_two min_two max_three min_three max_four min_four   -- for this text's walks alone
set_option linter.unusedVariables false
set_option linter.unusedSimpArgs false

/-! ### dryrotref11_in_takeInt: function 32 -/
def dryrotref11_in_takeInt.l0 : Nat → Int → List Int → Int → Bool → Option (Int × Int × Bool)
  | 0, _, _, _, _ => none
  | k + 1, x3, x1000, x1001, x1002 => if x3 < 4 then ((dryrotref11_in_take.f k x1000 x1001 x1002 1).bind fun bt192 => (if bt192.1 = 1 then (dryrotref11_in_takeInt.l0 k (wrap64 (x3 + 1)) x1000 bt192.2.1 bt192.2.2) else ((some (([0, 7, 12, 32, 64] : List Int) : List Int)).bind fun y195 => (if 0 ≤ x3 then (if x3 < (y195.length : Int) then ((dryrotref11_in_take.f k x1000 bt192.2.1 bt192.2.2 (rd y195 x3)).bind fun bt199 => (if (rd y195 x3) > 0 then (if (rd y195 x3) < 64 then (if 0 ≤ (wrap64 ((rd y195 x3) - 1)) then (if (wrap64 (bt199.1)) ≥ (shl .i64 1 (wrap64 ((rd y195 x3) - 1))) then (if 0 ≤ (rd y195 x3) then (some (wrap64 ((wrap64 (bt199.1)) - (shl .i64 1 (rd y195 x3))), bt199.2.1, bt199.2.2)) else (none)) else (some (wrap64 (bt199.1), bt199.2.1, bt199.2.2))) else (none)) else (some (wrap64 (bt199.1), bt199.2.1, bt199.2.2))) else (some (wrap64 (bt199.1), bt199.2.1, bt199.2.2)))) else (none)) else (none))))) else ((some (([0, 7, 12, 32, 64] : List Int) : List Int)).bind fun y202 => (if 0 ≤ x3 then (if x3 < (y202.length : Int) then ((dryrotref11_in_take.f k x1000 x1001 x1002 (rd y202 x3)).bind fun bt206 => (if (rd y202 x3) > 0 then (if (rd y202 x3) < 64 then (if 0 ≤ (wrap64 ((rd y202 x3) - 1)) then (if (wrap64 (bt206.1)) ≥ (shl .i64 1 (wrap64 ((rd y202 x3) - 1))) then (if 0 ≤ (rd y202 x3) then (some (wrap64 ((wrap64 (bt206.1)) - (shl .i64 1 (rd y202 x3))), bt206.2.1, bt206.2.2)) else (none)) else (some (wrap64 (bt206.1), bt206.2.1, bt206.2.2))) else (none)) else (some (wrap64 (bt206.1), bt206.2.1, bt206.2.2))) else (some (wrap64 (bt206.1), bt206.2.1, bt206.2.2)))) else (none)) else (none)))
def dryrotref11_in_takeInt.f (k : Nat) (s0_0 : List Int) (s0_1 : Int) (s0_2 : Bool) : Option (Int × Int × Bool) := dryrotref11_in_takeInt.l0 k 0 s0_0 s0_1 s0_2
theorem dryrotref11_in_takeInt.mono_l : ∀ k, (∀ y0 y1 y2 y3, LeO (dryrotref11_in_takeInt.l0 k y0 y1 y2 y3) (dryrotref11_in_takeInt.l0 (k + 1) y0 y1 y2 y3))
  | 0 => fun _ _ _ _ r h => by simp [dryrotref11_in_takeInt.l0] at h
  | k + 1 => by
    have ih0 := dryrotref11_in_takeInt.mono_l k
    · intro y0 y1 y2 y3
      unfold dryrotref11_in_takeInt.l0
      repeat' first
      | (with_reducible exact ih0 _ _ _ _)
      | (with_reducible exact dryrotref11_in_take.mono _ _ _ _ _)
      | (with_reducible exact LeO.refl _)
      | (with_reducible exact LeO.none _)
      | (with_reducible refine LeO.ite ?_ ?_)
      | (with_reducible refine LeO.bind ?_ (fun _ => ?_))
      | exact ih0 _ _ _ _
      | exact dryrotref11_in_take.mono _ _ _ _ _
      | exact LeO.none _
      | refine LeO.ite ?_ ?_
      | refine LeO.bind ?_ (fun _ => ?_)
theorem dryrotref11_in_takeInt.mono : ∀ a0 a1 a2 k, LeO (dryrotref11_in_takeInt.f k a0 a1 a2) (dryrotref11_in_takeInt.f (k + 1) a0 a1 a2) := by
  intro a0 a1 a2 k
  have ih0 := dryrotref11_in_takeInt.mono_l k
  unfold dryrotref11_in_takeInt.f
  repeat' first
      | (with_reducible exact ih0 _ _ _ _)
      | (with_reducible exact dryrotref11_in_take.mono _ _ _ _ _)
      | (with_reducible exact LeO.refl _)
      | (with_reducible exact LeO.none _)
      | (with_reducible refine LeO.ite ?_ ?_)
      | (with_reducible refine LeO.bind ?_ (fun _ => ?_))
      | exact ih0 _ _ _ _
      | exact dryrotref11_in_take.mono _ _ _ _ _
      | exact LeO.none _
      | refine LeO.ite ?_ ?_
      | refine LeO.bind ?_ (fun _ => ?_)
set_option maxHeartbeats 8000000 in
set_option maxRecDepth 100000 in
theorem dryrotref11_in_takeInt.calls (k : Nat) (g : Nat) (s0_0 : List Int) (s0_1 : Int) (s0_2 : Bool) (r1 : Int) (r2 : Int) (r3 : Bool) (w0 w : World) (hI : IsS61 w0 w g s0_0 s0_1 s0_2) (hB : Below w0.heap.size w0 w) (h : dryrotref11_in_takeInt.f k s0_0 s0_1 s0_2 = some (r1, r2, r3)) :
    Calls Tryd.prog 32 #[.pointer (some ⟨g, 0, none⟩)] w fun e w' => e = .returned (.int .i64 r1) ∧ IsS61 w0 w' g s0_0 r2 r3 ∧ Below w0.heap.size w0 w' ∧ KeepBut w w' g none := by
  have HI0 := Aside0.mk hI
  have HK := Aside0.mk (KeepBut.refl w g none)
  have HL := Aside0.mk hB.size
  clear hI
  have HW0 := Aside0.mk hB.size
  have HB := Aside0.mk hB
  clear hB
  have H : (dryrotref11_in_takeInt.l0 k 0 s0_0 s0_1 s0_2) = some (r1, r2, r3) := h
  clear h
  have H' := Aside0.mk H
  clear H
  go_enter Tryd.func32, Tryd.ntmps32
  go_wp2
  go_loopg [3] k (fun kq v3 w' => ∃ (x3_1 : Int) (x1001_1 : Int) (x1002_1 : Bool), v3 = .int .i64 x3_1 ∧ Aside0 (dryrotref11_in_takeInt.l0 kq x3_1 s0_0 x1001_1 x1002_1 = some (r1, r2, r3)) ∧ Aside0 (kq ≤ k) ∧ Aside0 (IsS61 w0 w' g s0_0 x1001_1 x1002_1) ∧ Aside0 (KeepBut w w' g none) ∧ Aside0 (Below w0.heap.size w0 w'))
  case atStart => exact ⟨(0), (s0_1), (s0_2), (by first | rfl | (simp; done) | (simp [*]; done)), H', ⟨Nat.le_refl _⟩, ⟨by repeat (first | (with_reducible first | exact HI0.out | apply IsS61.alloc | apply IsS61.drewN | apply IsS61.drew | apply IsS61.set_1 | apply IsS61.set_2) | exact HI0.out)⟩, ⟨by repeat (first | (with_reducible first | exact HK.out | apply KeepBut.set_ | apply keep_drewN | apply keep_drew | apply keep_alloc) | exact HK.out)⟩, ⟨by repeat (first | (with_reducible first | exact HB.out | apply below_alloc | apply pw_below_drewN | apply below_drew1 | refine below_set ?_ (IsS61.ge HI0.out)) | exact HB.out)⟩⟩
  case round =>
    clear H'
    obtain ⟨x3_1, x1001_1, x1002_1, rfl, HA, HK1, HI0, HK, HB⟩ := hrel
    cases gk with
    | zero => exact absurd HA.out (by simp [dryrotref11_in_takeInt.l0])
    | succ k1 =>
      have H := HA.out
      clear HA
      simp only [dryrotref11_in_takeInt.l0] at H
      by_cases c2 : x3_1 < 4
      · rw [if_pos c2] at H
        have c2b0 : decide (x3_1 < 4) = true := decide_eq_true c2
        clear c2
        replace H := Option.bind_eq_some_iff.mp H
        obtain ⟨⟨t192, t193, t194⟩, A30, H⟩ := H
        replace H : (if t192 = 1 then (dryrotref11_in_takeInt.l0 k1 (wrap64 (x3_1 + 1)) s0_0 t193 t194) else ((some (([0, 7, 12, 32, 64] : List Int) : List Int)).bind fun y195 => (if 0 ≤ x3_1 then (if x3_1 < (y195.length : Int) then ((dryrotref11_in_take.f k1 s0_0 t193 t194 (rd y195 x3_1)).bind fun bt199 => (if (rd y195 x3_1) > 0 then (if (rd y195 x3_1) < 64 then (if 0 ≤ (wrap64 ((rd y195 x3_1) - 1)) then (if (wrap64 (bt199.1)) ≥ (shl .i64 1 (wrap64 ((rd y195 x3_1) - 1))) then (if 0 ≤ (rd y195 x3_1) then (some (wrap64 ((wrap64 (bt199.1)) - (shl .i64 1 (rd y195 x3_1))), bt199.2.1, bt199.2.2)) else (none)) else (some (wrap64 (bt199.1), bt199.2.1, bt199.2.2))) else (none)) else (some (wrap64 (bt199.1), bt199.2.1, bt199.2.2))) else (some (wrap64 (bt199.1), bt199.2.1, bt199.2.2)))) else (none)) else (none)))) = some (r1, r2, r3) := H
        have A3 := Aside0.mk A30
        clear A30
        by_cases c4 : t192 = 1
        · rw [if_pos c4] at H
          have c4b0 : (t192 == 1) = true := beq_iff_eq.mpr c4
          have c4b1 : (t192 != 1) = false := bne_eq_false_iff_eq.mpr c4
          clear c4
          have H' := Aside0.mk H
          clear H
          go_wp2_with (first | (go_at_call 31; (with_reducible refine (dryrotref11_in_take.calls k1 g s0_0 x1001_1 x1002_1 1 t192 t193 t194 w0 _ ?side1 ?side2 A3.out).mono ?_); (case side1 => repeat (first | (with_reducible first | exact HI0.out | apply IsS61.alloc | apply IsS61.drewN | apply IsS61.drew | apply IsS61.set_1 | apply IsS61.set_2) | exact HI0.out)); (case side2 => repeat (first | (with_reducible first | exact HB.out | apply below_alloc | apply pw_below_drewN | apply below_drew1 | refine below_set ?_ (IsS61.ge HI0.out)) | exact HB.out)); rintro e w5 ⟨rfl, hi, hb, hk⟩; have n0_ := Aside0.mk (KeepBut.trans (by repeat (first | (with_reducible first | exact HK.out | apply KeepBut.set_ | apply keep_drewN | apply keep_drew | apply keep_alloc) | exact HK.out)) hk (.inl rfl)); have n1_ := Aside0.mk (hb); have n2_ := Aside0.mk (hi); clear HK; clear HB; clear HI0; have HK := n0_; have HB := n1_; have HI0 := n2_; clear n0_ n1_ n2_; (try clear hb); (try clear hb2); (try clear hk); (try clear hi)))
          go_roundg k1
          case measure => have := HK1.out; omega
          case rel => exact ⟨(wrap64 (x3_1 + 1)), (t193), (t194), (by first | rfl | (simp; done) | (simp [*]; done)), H', ⟨by have := HK1.out; omega⟩, ⟨by repeat (first | (with_reducible first | exact HI0.out | apply IsS61.alloc | apply IsS61.drewN | apply IsS61.drew | apply IsS61.set_1 | apply IsS61.set_2) | exact HI0.out)⟩, ⟨by repeat (first | (with_reducible first | exact HK.out | apply KeepBut.set_ | apply keep_drewN | apply keep_drew | apply keep_alloc) | exact HK.out)⟩, ⟨by repeat (first | (with_reducible first | exact HB.out | apply below_alloc | apply pw_below_drewN | apply below_drew1 | refine below_set ?_ (IsS61.ge HI0.out)) | exact HB.out)⟩⟩
        · rw [if_neg c4] at H
          have c4b0 : (t192 == 1) = false := beq_eq_false_iff_ne.mpr c4
          have c4b1 : (t192 != 1) = true := bne_iff_ne.mpr c4
          obtain ⟨y195, hy195⟩ : ∃ y_ : List Int, y_ = (([0, 7, 12, 32, 64] : List Int)) := ⟨_, rfl⟩
          replace H : (if 0 ≤ x3_1 then (if x3_1 < (y195.length : Int) then ((dryrotref11_in_take.f k1 s0_0 t193 t194 (rd y195 x3_1)).bind fun bt199 => (if (rd y195 x3_1) > 0 then (if (rd y195 x3_1) < 64 then (if 0 ≤ (wrap64 ((rd y195 x3_1) - 1)) then (if (wrap64 (bt199.1)) ≥ (shl .i64 1 (wrap64 ((rd y195 x3_1) - 1))) then (if 0 ≤ (rd y195 x3_1) then (some (wrap64 ((wrap64 (bt199.1)) - (shl .i64 1 (rd y195 x3_1))), bt199.2.1, bt199.2.2)) else (none)) else (some (wrap64 (bt199.1), bt199.2.1, bt199.2.2))) else (none)) else (some (wrap64 (bt199.1), bt199.2.1, bt199.2.2))) else (some (wrap64 (bt199.1), bt199.2.1, bt199.2.2)))) else (none)) else (none)) = some (r1, r2, r3) := by first | (rw [hy195]; with_reducible exact H) | (have H2_ := (Option.bind_some _ _).symm.trans H; rw [hy195]; with_reducible exact H2_) | (have H2_ := (Option.bind_some _ _).symm.trans H; with_reducible exact H2_) | with_reducible exact H | (rw [hy195]; exact H) | exact H
          have Ny195 := Aside0.mk hy195
          clear hy195
          by_cases c6 : 0 ≤ x3_1
          · rw [if_pos c6] at H
            have c6b0 : decide (0 ≤ x3_1) = true := decide_eq_true c6
            clear c6
            by_cases c7 : x3_1 < (y195.length : Int)
            · rw [if_pos c7] at H
              have c7b0 : decide (x3_1 < (y195.length : Int)) = true := decide_eq_true c7
              clear c7
              replace H := Option.bind_eq_some_iff.mp H
              obtain ⟨⟨t199, t200, t201⟩, A80, H⟩ := H
              replace H : (if (rd y195 x3_1) > 0 then (if (rd y195 x3_1) < 64 then (if 0 ≤ (wrap64 ((rd y195 x3_1) - 1)) then (if (wrap64 (t199)) ≥ (shl .i64 1 (wrap64 ((rd y195 x3_1) - 1))) then (if 0 ≤ (rd y195 x3_1) then (some (wrap64 ((wrap64 (t199)) - (shl .i64 1 (rd y195 x3_1))), t200, t201)) else (none)) else (some (wrap64 (t199), t200, t201))) else (none)) else (some (wrap64 (t199), t200, t201))) else (some (wrap64 (t199), t200, t201))) = some (r1, r2, r3) := H
              have A8 := Aside0.mk A80
              clear A80
              by_cases c9 : (rd y195 x3_1) > 0
              · rw [if_pos c9] at H
                have c9b0 : decide (0 < (rd y195 x3_1)) = true := decide_eq_true c9
                clear c9
                by_cases c10 : (rd y195 x3_1) < 64
                · rw [if_pos c10] at H
                  have c10b0 : decide ((rd y195 x3_1) < 64) = true := decide_eq_true c10
                  clear c10
                  obtain ⟨ji11, hji11⟩ : ∃ j_ : Int, (wrap64 ((rd y195 x3_1) - 1)) = j_ := ⟨_, rfl⟩
                  replace H : (if 0 ≤ (ji11) then (if (wrap64 (t199)) ≥ (shl .i64 1 (ji11)) then (if 0 ≤ (rd y195 x3_1) then (some (wrap64 ((wrap64 (t199)) - (shl .i64 1 (rd y195 x3_1))), t200, t201)) else (none)) else (some (wrap64 (t199), t200, t201))) else (none)) = some (r1, r2, r3) := by first | (rw [hji11] at H; exact H) | (simp only [hji11] at H ⊢; exact H)
                  (try rw [hji11] at A3)
                  (try rw [hji11] at A8)
                  have hji11w : (IntKind.i64.wrap ((rd y195 x3_1) - 1)) = ji11 := (i64_w _).trans hji11
                  by_cases c12 : 0 ≤ (ji11)
                  · rw [if_pos c12] at H
                    have c12b0 := eq_true c12
                    have c12b1 : decide (0 ≤ (ji11)) = true := decide_eq_true c12
                    clear c12
                    obtain ⟨ji13, hji13⟩ : ∃ j_ : Int, (shl .i64 1 (ji11)) = j_ := ⟨_, rfl⟩
                    replace H : (if (wrap64 (t199)) ≥ (ji13) then (if 0 ≤ (rd y195 x3_1) then (some (wrap64 ((wrap64 (t199)) - (shl .i64 1 (rd y195 x3_1))), t200, t201)) else (none)) else (some (wrap64 (t199), t200, t201))) = some (r1, r2, r3) := by first | (rw [hji13] at H; exact H) | (simp only [hji13] at H ⊢; exact H)
                    (try rw [hji13] at A3)
                    (try rw [hji13] at A8)
                    have hji13_ : (IntKind.i64.wrap (1 * 2 ^ min (ji11).toNat 64)) = ji13 := hji13
                    have hji13z : (ji11) ≤ 64 → (IntKind.i64.wrap (1 * 2 ^ (ji11).toNat)) = ji13 := shl_small hji13
                    have hji13u : (IntKind.i64.wrap (2 ^ min (ji11).toNat 64)) = ji13 := by have h_ := hji13_; rw [Int.one_mul] at h_; exact h_
                    have hji13v : (ji11) ≤ 64 → (IntKind.i64.wrap (2 ^ (ji11).toNat)) = ji13 := fun hle_ => by have h_ := hji13z hle_; rw [Int.one_mul] at h_; exact h_
                    have hji13y : (wrap64 (1 * 2 ^ min (ji11).toNat 64)) = ji13 := (i64_w _).symm.trans hji13_
                    have hji13x : (ji11) ≤ 64 → (wrap64 (1 * 2 ^ (ji11).toNat)) = ji13 := fun h_ => (i64_w _).symm.trans (hji13z h_)
                    by_cases c14 : (wrap64 (t199)) ≥ (ji13)
                    · rw [if_pos c14] at H
                      have c14b0 : decide ((ji13) ≤ (wrap64 (t199))) = true := decide_eq_true c14
                      clear c14
                      by_cases c15 : 0 ≤ (rd y195 x3_1)
                      · rw [if_pos c15] at H
                        have c15b0 := eq_true c15
                        have c15b1 : decide (0 ≤ (rd y195 x3_1)) = true := decide_eq_true c15
                        clear c15
                        obtain ⟨ji16, hji16⟩ : ∃ j_ : Int, (shl .i64 1 (rd y195 x3_1)) = j_ := ⟨_, rfl⟩
                        replace H : (some (wrap64 ((wrap64 (t199)) - (ji16)), t200, t201)) = some (r1, r2, r3) := by first | (rw [hji16] at H; exact H) | (simp only [hji16] at H ⊢; exact H)
                        (try rw [hji16] at A3)
                        (try rw [hji16] at A8)
                        have hji16_ : (IntKind.i64.wrap (1 * 2 ^ min (rd y195 x3_1).toNat 64)) = ji16 := hji16
                        have hji16z : (rd y195 x3_1) ≤ 64 → (IntKind.i64.wrap (1 * 2 ^ (rd y195 x3_1).toNat)) = ji16 := shl_small hji16
                        have hji16u : (IntKind.i64.wrap (2 ^ min (rd y195 x3_1).toNat 64)) = ji16 := by have h_ := hji16_; rw [Int.one_mul] at h_; exact h_
                        have hji16v : (rd y195 x3_1) ≤ 64 → (IntKind.i64.wrap (2 ^ (rd y195 x3_1).toNat)) = ji16 := fun hle_ => by have h_ := hji16z hle_; rw [Int.one_mul] at h_; exact h_
                        have hji16y : (wrap64 (1 * 2 ^ min (rd y195 x3_1).toNat 64)) = ji16 := (i64_w _).symm.trans hji16_
                        have hji16x : (rd y195 x3_1) ≤ 64 → (wrap64 (1 * 2 ^ (rd y195 x3_1).toNat)) = ji16 := fun h_ => (i64_w _).symm.trans (hji16z h_)
                        simp only [Option.some.injEq, Prod.mk.injEq] at H
                        obtain ⟨rfl, rfl, rfl⟩ := H
                        go_wp2_with (first | (go_at_call 31; (with_reducible refine (dryrotref11_in_take.calls k1 g s0_0 x1001_1 x1002_1 1 t192 t193 t194 w0 _ ?side1 ?side2 A3.out).mono ?_); (case side1 => repeat (first | (with_reducible first | exact HI0.out | apply IsS61.alloc | apply IsS61.drewN | apply IsS61.drew | apply IsS61.set_1 | apply IsS61.set_2) | exact HI0.out)); (case side2 => repeat (first | (with_reducible first | exact HB.out | apply below_alloc | apply pw_below_drewN | apply below_drew1 | refine below_set ?_ (IsS61.ge HI0.out)) | exact HB.out)); rintro e w17 ⟨rfl, hi, hb, hk⟩; have n0_ := Aside0.mk (KeepBut.trans (by repeat (first | (with_reducible first | exact HK.out | apply KeepBut.set_ | apply keep_drewN | apply keep_drew | apply keep_alloc) | exact HK.out)) hk (.inl rfl)); have n1_ := Aside0.mk (hb); have n2_ := Aside0.mk (hi); clear HK; clear HB; clear HI0; have HK := n0_; have HB := n1_; have HI0 := n2_; clear n0_ n1_ n2_; (try clear hb); (try clear hb2); (try clear hk); (try clear hi)) | ((with_reducible refine gate_dst (N := 15) rfl ?_); refine Kd.R_lit (Kd.int .i64) _ 3 ?hg (N := 15) ?hd (xs := ([0, 7, 12, 32, 64] : List Int)) (inner := [.int .i64 0, .int .i64 7, .int .i64 12, .int .i64 32, .int .i64 64]) (ok := fun _ => True) (okp := fun _ => True) ?hr ?hp (fun _ hk => hk) trivial (Below.refl _ _) (Nat.le_refl _) (by simp) ?_; (case hd => rfl); (case hg => rfl); (case hr => first | (go_simp; done) | (go_simp; rfl)); (case hp => exact (Reps.one (show Kd.M (Kd.int .i64) _ _ _ 0 [.int .i64 0] from rfl) (Reps.one (show Kd.M (Kd.int .i64) _ _ _ 7 [.int .i64 7] from rfl) (Reps.one (show Kd.M (Kd.int .i64) _ _ _ 12 [.int .i64 12] from rfl) (Reps.one (show Kd.M (Kd.int .i64) _ _ _ 32 [.int .i64 32] from rfl) (Reps.one (show Kd.M (Kd.int .i64) _ _ _ 64 [.int .i64 64] from rfl) (Reps.none _ _))))))); intro v196 w18 ho19 hb hg_ hnew_; clear hg_ hnew_; (first | rw [← Ny195.out] at ho19 | (simp only [Int.reduceToNat] at ho19; rw [← Ny195.out] at ho19)); have n0_ := Aside0.mk (Kd.R_lower ho19 (keep_size (w := w) (g := g) (row := none) (by repeat (first | (with_reducible first | exact HK.out | apply KeepBut.set_ | apply keep_drewN | apply keep_drew | apply keep_alloc) | exact HK.out)))); have n1_ := Aside0.mk (IsS61.below (by repeat (first | (with_reducible first | exact HI0.out | apply IsS61.alloc | apply IsS61.drewN | apply IsS61.drew | apply IsS61.set_1 | apply IsS61.set_2) | exact HI0.out)) hb); have n2_ := Aside0.mk (KeepBut.trans (by repeat (first | (with_reducible first | exact HK.out | apply KeepBut.set_ | apply keep_drewN | apply keep_drew | apply keep_alloc) | exact HK.out)) (KeepBut.of_below hb g none) (.inl rfl)); have n3_ := Aside0.mk (below_step (by repeat (first | (with_reducible first | exact HB.out | apply below_alloc | apply pw_below_drewN | apply below_drew1 | refine below_set ?_ (IsS61.ge HI0.out)) | exact HB.out)) hb); clear HI0; clear HK; clear HB; have HO197 := n0_; have HI0 := n1_; have HK := n2_; have HB := n3_; clear n0_ n1_ n2_ n3_; clear hb ho19; obtain ⟨Ao20, co20, eo20⟩ := Kd.R_slice HO197.out; subst eo20; have p198 : 0 ≤ (x3_1 : Int) := of_decide_eq_true (by first | (with_reducible assumption) | assumption); have q198 : x3_1 < (y195.length : Int) := of_decide_eq_true (by first | (with_reducible assumption) | assumption); obtain ⟨ad198, e198, hx198_0⟩ := Kd.at_int (Kd.R_reads' HO197.out).2.2 x3_1 p198 q198; cases e198; replace p198 := eq_true p198; replace q198 := eq_true q198) | ((with_reducible refine gate_callee (f := 31) rfl ?_); refine goesL_ (some 21) rfl rfl Tryd.func31 (by kernel_rfl) rfl #[.pointer (some ⟨g, 0, none⟩), .int .i64 (rd y195 x3_1)] rfl (by (try simp only [List.map_toArray, List.map_cons, List.map_nil]); first | done | rfl | (simp only [List.length_drop, List.length_take]; rfl)) ?_; (with_reducible refine (dryrotref11_in_take.calls k1 g s0_0 t193 t194 (rd y195 x3_1) t199 t200 t201 w0 _ ?side1 ?side2 A8.out).mono ?_); (case side1 => repeat (first | (with_reducible first | exact HI0.out | apply IsS61.alloc | apply IsS61.drewN | apply IsS61.drew | apply IsS61.set_1 | apply IsS61.set_2) | exact HI0.out)); (case side2 => repeat (first | (with_reducible first | exact HB.out | apply below_alloc | apply pw_below_drewN | apply below_drew1 | refine below_set ?_ (IsS61.ge HI0.out)) | exact HB.out)); rintro e w21 ⟨rfl, hi, hb, hk⟩; refine ⟨_, rfl, ?_⟩; have n0_ := Aside0.mk (Kd.R_mono (Kd.R_keep (IsS61.apart (show IsS61 w0 _ g s0_0 t193 t194 from by repeat (first | (with_reducible first | exact HI0.out | apply IsS61.alloc | apply IsS61.drewN | apply IsS61.drew | apply IsS61.set_1 | apply IsS61.set_2) | exact HI0.out)) (by (with_reducible repeat (first | apply Kd.R_alloc | apply Kd.R_drewN | apply Kd.R_drew)); exact HO197.out) (by decide)) hk (fun _ h => h.2)) (fun _ h => h.1)); have n1_ := Aside0.mk (KeepBut.trans (by repeat (first | (with_reducible first | exact HK.out | apply KeepBut.set_ | apply keep_drewN | apply keep_drew | apply keep_alloc) | exact HK.out)) hk (.inl rfl)); have n2_ := Aside0.mk (hb); have n3_ := Aside0.mk (hi); clear HO197; clear HK; clear HB; clear HI0; have HO197 := n0_; have HK := n1_; have HB := n2_; have HI0 := n3_; clear n0_ n1_ n2_ n3_; (try clear hb); (try clear hb2); (try clear hk); (try clear hi)))
                        go_ret
                        exact ⟨by first | rfl | (simp [errW_none, errW_some] <;> rfl) | (simp only [← hji11, ← hji13, ← hji16]; first | rfl | (simp [errW_none, errW_some] <;> rfl)) | (simp [*, errW_none, errW_some] <;> rfl), by repeat (first | (with_reducible first | exact HI0.out | apply IsS61.alloc | apply IsS61.drewN | apply IsS61.drew | apply IsS61.set_1 | apply IsS61.set_2) | exact HI0.out), by repeat (first | (with_reducible first | exact HB.out | apply below_alloc | apply pw_below_drewN | apply below_drew1 | refine below_set ?_ (IsS61.ge HI0.out)) | exact HB.out), by repeat (first | (with_reducible first | exact HK.out | apply KeepBut.set_ | apply keep_drewN | apply keep_drew | apply keep_alloc) | exact HK.out)⟩
                      · rw [if_neg c15] at H
                        exact absurd H (by simp)
                    · rw [if_neg c14] at H
                      have c14b0 : decide ((ji13) ≤ (wrap64 (t199))) = false := decide_eq_false c14
                      clear c14
                      simp only [Option.some.injEq, Prod.mk.injEq] at H
                      obtain ⟨rfl, rfl, rfl⟩ := H
                      go_wp2_with (first | (go_at_call 31; (with_reducible refine (dryrotref11_in_take.calls k1 g s0_0 x1001_1 x1002_1 1 t192 t193 t194 w0 _ ?side1 ?side2 A3.out).mono ?_); (case side1 => repeat (first | (with_reducible first | exact HI0.out | apply IsS61.alloc | apply IsS61.drewN | apply IsS61.drew | apply IsS61.set_1 | apply IsS61.set_2) | exact HI0.out)); (case side2 => repeat (first | (with_reducible first | exact HB.out | apply below_alloc | apply pw_below_drewN | apply below_drew1 | refine below_set ?_ (IsS61.ge HI0.out)) | exact HB.out)); rintro e w22 ⟨rfl, hi, hb, hk⟩; have n0_ := Aside0.mk (KeepBut.trans (by repeat (first | (with_reducible first | exact HK.out | apply KeepBut.set_ | apply keep_drewN | apply keep_drew | apply keep_alloc) | exact HK.out)) hk (.inl rfl)); have n1_ := Aside0.mk (hb); have n2_ := Aside0.mk (hi); clear HK; clear HB; clear HI0; have HK := n0_; have HB := n1_; have HI0 := n2_; clear n0_ n1_ n2_; (try clear hb); (try clear hb2); (try clear hk); (try clear hi)) | ((with_reducible refine gate_dst (N := 15) rfl ?_); refine Kd.R_lit (Kd.int .i64) _ 3 ?hg (N := 15) ?hd (xs := ([0, 7, 12, 32, 64] : List Int)) (inner := [.int .i64 0, .int .i64 7, .int .i64 12, .int .i64 32, .int .i64 64]) (ok := fun _ => True) (okp := fun _ => True) ?hr ?hp (fun _ hk => hk) trivial (Below.refl _ _) (Nat.le_refl _) (by simp) ?_; (case hd => rfl); (case hg => rfl); (case hr => first | (go_simp; done) | (go_simp; rfl)); (case hp => exact (Reps.one (show Kd.M (Kd.int .i64) _ _ _ 0 [.int .i64 0] from rfl) (Reps.one (show Kd.M (Kd.int .i64) _ _ _ 7 [.int .i64 7] from rfl) (Reps.one (show Kd.M (Kd.int .i64) _ _ _ 12 [.int .i64 12] from rfl) (Reps.one (show Kd.M (Kd.int .i64) _ _ _ 32 [.int .i64 32] from rfl) (Reps.one (show Kd.M (Kd.int .i64) _ _ _ 64 [.int .i64 64] from rfl) (Reps.none _ _))))))); intro v196 w23 ho24 hb hg_ hnew_; clear hg_ hnew_; (first | rw [← Ny195.out] at ho24 | (simp only [Int.reduceToNat] at ho24; rw [← Ny195.out] at ho24)); have n0_ := Aside0.mk (Kd.R_lower ho24 (keep_size (w := w) (g := g) (row := none) (by repeat (first | (with_reducible first | exact HK.out | apply KeepBut.set_ | apply keep_drewN | apply keep_drew | apply keep_alloc) | exact HK.out)))); have n1_ := Aside0.mk (IsS61.below (by repeat (first | (with_reducible first | exact HI0.out | apply IsS61.alloc | apply IsS61.drewN | apply IsS61.drew | apply IsS61.set_1 | apply IsS61.set_2) | exact HI0.out)) hb); have n2_ := Aside0.mk (KeepBut.trans (by repeat (first | (with_reducible first | exact HK.out | apply KeepBut.set_ | apply keep_drewN | apply keep_drew | apply keep_alloc) | exact HK.out)) (KeepBut.of_below hb g none) (.inl rfl)); have n3_ := Aside0.mk (below_step (by repeat (first | (with_reducible first | exact HB.out | apply below_alloc | apply pw_below_drewN | apply below_drew1 | refine below_set ?_ (IsS61.ge HI0.out)) | exact HB.out)) hb); clear HI0; clear HK; clear HB; have HO197 := n0_; have HI0 := n1_; have HK := n2_; have HB := n3_; clear n0_ n1_ n2_ n3_; clear hb ho24; obtain ⟨Ao25, co25, eo25⟩ := Kd.R_slice HO197.out; subst eo25; have p198 : 0 ≤ (x3_1 : Int) := of_decide_eq_true (by first | (with_reducible assumption) | assumption); have q198 : x3_1 < (y195.length : Int) := of_decide_eq_true (by first | (with_reducible assumption) | assumption); obtain ⟨ad198, e198, hx198_0⟩ := Kd.at_int (Kd.R_reads' HO197.out).2.2 x3_1 p198 q198; cases e198; replace p198 := eq_true p198; replace q198 := eq_true q198) | ((with_reducible refine gate_callee (f := 31) rfl ?_); refine goesL_ (some 21) rfl rfl Tryd.func31 (by kernel_rfl) rfl #[.pointer (some ⟨g, 0, none⟩), .int .i64 (rd y195 x3_1)] rfl (by (try simp only [List.map_toArray, List.map_cons, List.map_nil]); first | done | rfl | (simp only [List.length_drop, List.length_take]; rfl)) ?_; (with_reducible refine (dryrotref11_in_take.calls k1 g s0_0 t193 t194 (rd y195 x3_1) t199 t200 t201 w0 _ ?side1 ?side2 A8.out).mono ?_); (case side1 => repeat (first | (with_reducible first | exact HI0.out | apply IsS61.alloc | apply IsS61.drewN | apply IsS61.drew | apply IsS61.set_1 | apply IsS61.set_2) | exact HI0.out)); (case side2 => repeat (first | (with_reducible first | exact HB.out | apply below_alloc | apply pw_below_drewN | apply below_drew1 | refine below_set ?_ (IsS61.ge HI0.out)) | exact HB.out)); rintro e w26 ⟨rfl, hi, hb, hk⟩; refine ⟨_, rfl, ?_⟩; have n0_ := Aside0.mk (Kd.R_mono (Kd.R_keep (IsS61.apart (show IsS61 w0 _ g s0_0 t193 t194 from by repeat (first | (with_reducible first | exact HI0.out | apply IsS61.alloc | apply IsS61.drewN | apply IsS61.drew | apply IsS61.set_1 | apply IsS61.set_2) | exact HI0.out)) (by (with_reducible repeat (first | apply Kd.R_alloc | apply Kd.R_drewN | apply Kd.R_drew)); exact HO197.out) (by decide)) hk (fun _ h => h.2)) (fun _ h => h.1)); have n1_ := Aside0.mk (KeepBut.trans (by repeat (first | (with_reducible first | exact HK.out | apply KeepBut.set_ | apply keep_drewN | apply keep_drew | apply keep_alloc) | exact HK.out)) hk (.inl rfl)); have n2_ := Aside0.mk (hb); have n3_ := Aside0.mk (hi); clear HO197; clear HK; clear HB; clear HI0; have HO197 := n0_; have HK := n1_; have HB := n2_; have HI0 := n3_; clear n0_ n1_ n2_ n3_; (try clear hb); (try clear hb2); (try clear hk); (try clear hi)))
                      go_ret
                      exact ⟨by first | rfl | (simp [errW_none, errW_some] <;> rfl) | (simp only [← hji11, ← hji13]; first | rfl | (simp [errW_none, errW_some] <;> rfl)) | (simp [*, errW_none, errW_some] <;> rfl), by repeat (first | (with_reducible first | exact HI0.out | apply IsS61.alloc | apply IsS61.drewN | apply IsS61.drew | apply IsS61.set_1 | apply IsS61.set_2) | exact HI0.out), by repeat (first | (with_reducible first | exact HB.out | apply below_alloc | apply pw_below_drewN | apply below_drew1 | refine below_set ?_ (IsS61.ge HI0.out)) | exact HB.out), by repeat (first | (with_reducible first | exact HK.out | apply KeepBut.set_ | apply keep_drewN | apply keep_drew | apply keep_alloc) | exact HK.out)⟩
                  · rw [if_neg c12] at H
                    exact absurd H (by simp)
                · rw [if_neg c10] at H
                  have c10b0 : decide ((rd y195 x3_1) < 64) = false := decide_eq_false c10
                  clear c10
                  simp only [Option.some.injEq, Prod.mk.injEq] at H
                  obtain ⟨rfl, rfl, rfl⟩ := H
                  go_wp2_with (first | (go_at_call 31; (with_reducible refine (dryrotref11_in_take.calls k1 g s0_0 x1001_1 x1002_1 1 t192 t193 t194 w0 _ ?side1 ?side2 A3.out).mono ?_); (case side1 => repeat (first | (with_reducible first | exact HI0.out | apply IsS61.alloc | apply IsS61.drewN | apply IsS61.drew | apply IsS61.set_1 | apply IsS61.set_2) | exact HI0.out)); (case side2 => repeat (first | (with_reducible first | exact HB.out | apply below_alloc | apply pw_below_drewN | apply below_drew1 | refine below_set ?_ (IsS61.ge HI0.out)) | exact HB.out)); rintro e w27 ⟨rfl, hi, hb, hk⟩; have n0_ := Aside0.mk (KeepBut.trans (by repeat (first | (with_reducible first | exact HK.out | apply KeepBut.set_ | apply keep_drewN | apply keep_drew | apply keep_alloc) | exact HK.out)) hk (.inl rfl)); have n1_ := Aside0.mk (hb); have n2_ := Aside0.mk (hi); clear HK; clear HB; clear HI0; have HK := n0_; have HB := n1_; have HI0 := n2_; clear n0_ n1_ n2_; (try clear hb); (try clear hb2); (try clear hk); (try clear hi)) | ((with_reducible refine gate_dst (N := 15) rfl ?_); refine Kd.R_lit (Kd.int .i64) _ 3 ?hg (N := 15) ?hd (xs := ([0, 7, 12, 32, 64] : List Int)) (inner := [.int .i64 0, .int .i64 7, .int .i64 12, .int .i64 32, .int .i64 64]) (ok := fun _ => True) (okp := fun _ => True) ?hr ?hp (fun _ hk => hk) trivial (Below.refl _ _) (Nat.le_refl _) (by simp) ?_; (case hd => rfl); (case hg => rfl); (case hr => first | (go_simp; done) | (go_simp; rfl)); (case hp => exact (Reps.one (show Kd.M (Kd.int .i64) _ _ _ 0 [.int .i64 0] from rfl) (Reps.one (show Kd.M (Kd.int .i64) _ _ _ 7 [.int .i64 7] from rfl) (Reps.one (show Kd.M (Kd.int .i64) _ _ _ 12 [.int .i64 12] from rfl) (Reps.one (show Kd.M (Kd.int .i64) _ _ _ 32 [.int .i64 32] from rfl) (Reps.one (show Kd.M (Kd.int .i64) _ _ _ 64 [.int .i64 64] from rfl) (Reps.none _ _))))))); intro v196 w28 ho29 hb hg_ hnew_; clear hg_ hnew_; (first | rw [← Ny195.out] at ho29 | (simp only [Int.reduceToNat] at ho29; rw [← Ny195.out] at ho29)); have n0_ := Aside0.mk (Kd.R_lower ho29 (keep_size (w := w) (g := g) (row := none) (by repeat (first | (with_reducible first | exact HK.out | apply KeepBut.set_ | apply keep_drewN | apply keep_drew | apply keep_alloc) | exact HK.out)))); have n1_ := Aside0.mk (IsS61.below (by repeat (first | (with_reducible first | exact HI0.out | apply IsS61.alloc | apply IsS61.drewN | apply IsS61.drew | apply IsS61.set_1 | apply IsS61.set_2) | exact HI0.out)) hb); have n2_ := Aside0.mk (KeepBut.trans (by repeat (first | (with_reducible first | exact HK.out | apply KeepBut.set_ | apply keep_drewN | apply keep_drew | apply keep_alloc) | exact HK.out)) (KeepBut.of_below hb g none) (.inl rfl)); have n3_ := Aside0.mk (below_step (by repeat (first | (with_reducible first | exact HB.out | apply below_alloc | apply pw_below_drewN | apply below_drew1 | refine below_set ?_ (IsS61.ge HI0.out)) | exact HB.out)) hb); clear HI0; clear HK; clear HB; have HO197 := n0_; have HI0 := n1_; have HK := n2_; have HB := n3_; clear n0_ n1_ n2_ n3_; clear hb ho29; obtain ⟨Ao30, co30, eo30⟩ := Kd.R_slice HO197.out; subst eo30; have p198 : 0 ≤ (x3_1 : Int) := of_decide_eq_true (by first | (with_reducible assumption) | assumption); have q198 : x3_1 < (y195.length : Int) := of_decide_eq_true (by first | (with_reducible assumption) | assumption); obtain ⟨ad198, e198, hx198_0⟩ := Kd.at_int (Kd.R_reads' HO197.out).2.2 x3_1 p198 q198; cases e198; replace p198 := eq_true p198; replace q198 := eq_true q198) | ((with_reducible refine gate_callee (f := 31) rfl ?_); refine goesL_ (some 21) rfl rfl Tryd.func31 (by kernel_rfl) rfl #[.pointer (some ⟨g, 0, none⟩), .int .i64 (rd y195 x3_1)] rfl (by (try simp only [List.map_toArray, List.map_cons, List.map_nil]); first | done | rfl | (simp only [List.length_drop, List.length_take]; rfl)) ?_; (with_reducible refine (dryrotref11_in_take.calls k1 g s0_0 t193 t194 (rd y195 x3_1) t199 t200 t201 w0 _ ?side1 ?side2 A8.out).mono ?_); (case side1 => repeat (first | (with_reducible first | exact HI0.out | apply IsS61.alloc | apply IsS61.drewN | apply IsS61.drew | apply IsS61.set_1 | apply IsS61.set_2) | exact HI0.out)); (case side2 => repeat (first | (with_reducible first | exact HB.out | apply below_alloc | apply pw_below_drewN | apply below_drew1 | refine below_set ?_ (IsS61.ge HI0.out)) | exact HB.out)); rintro e w31 ⟨rfl, hi, hb, hk⟩; refine ⟨_, rfl, ?_⟩; have n0_ := Aside0.mk (Kd.R_mono (Kd.R_keep (IsS61.apart (show IsS61 w0 _ g s0_0 t193 t194 from by repeat (first | (with_reducible first | exact HI0.out | apply IsS61.alloc | apply IsS61.drewN | apply IsS61.drew | apply IsS61.set_1 | apply IsS61.set_2) | exact HI0.out)) (by (with_reducible repeat (first | apply Kd.R_alloc | apply Kd.R_drewN | apply Kd.R_drew)); exact HO197.out) (by decide)) hk (fun _ h => h.2)) (fun _ h => h.1)); have n1_ := Aside0.mk (KeepBut.trans (by repeat (first | (with_reducible first | exact HK.out | apply KeepBut.set_ | apply keep_drewN | apply keep_drew | apply keep_alloc) | exact HK.out)) hk (.inl rfl)); have n2_ := Aside0.mk (hb); have n3_ := Aside0.mk (hi); clear HO197; clear HK; clear HB; clear HI0; have HO197 := n0_; have HK := n1_; have HB := n2_; have HI0 := n3_; clear n0_ n1_ n2_ n3_; (try clear hb); (try clear hb2); (try clear hk); (try clear hi)))
                  go_ret
                  exact ⟨by first | rfl | (simp [errW_none, errW_some] <;> rfl) | (simp [*, errW_none, errW_some] <;> rfl), by repeat (first | (with_reducible first | exact HI0.out | apply IsS61.alloc | apply IsS61.drewN | apply IsS61.drew | apply IsS61.set_1 | apply IsS61.set_2) | exact HI0.out), by repeat (first | (with_reducible first | exact HB.out | apply below_alloc | apply pw_below_drewN | apply below_drew1 | refine below_set ?_ (IsS61.ge HI0.out)) | exact HB.out), by repeat (first | (with_reducible first | exact HK.out | apply KeepBut.set_ | apply keep_drewN | apply keep_drew | apply keep_alloc) | exact HK.out)⟩
              · rw [if_neg c9] at H
                have c9b0 : decide (0 < (rd y195 x3_1)) = false := decide_eq_false c9
                clear c9
                simp only [Option.some.injEq, Prod.mk.injEq] at H
                obtain ⟨rfl, rfl, rfl⟩ := H
                go_wp2_with (first | (go_at_call 31; (with_reducible refine (dryrotref11_in_take.calls k1 g s0_0 x1001_1 x1002_1 1 t192 t193 t194 w0 _ ?side1 ?side2 A3.out).mono ?_); (case side1 => repeat (first | (with_reducible first | exact HI0.out | apply IsS61.alloc | apply IsS61.drewN | apply IsS61.drew | apply IsS61.set_1 | apply IsS61.set_2) | exact HI0.out)); (case side2 => repeat (first | (with_reducible first | exact HB.out | apply below_alloc | apply pw_below_drewN | apply below_drew1 | refine below_set ?_ (IsS61.ge HI0.out)) | exact HB.out)); rintro e w32 ⟨rfl, hi, hb, hk⟩; have n0_ := Aside0.mk (KeepBut.trans (by repeat (first | (with_reducible first | exact HK.out | apply KeepBut.set_ | apply keep_drewN | apply keep_drew | apply keep_alloc) | exact HK.out)) hk (.inl rfl)); have n1_ := Aside0.mk (hb); have n2_ := Aside0.mk (hi); clear HK; clear HB; clear HI0; have HK := n0_; have HB := n1_; have HI0 := n2_; clear n0_ n1_ n2_; (try clear hb); (try clear hb2); (try clear hk); (try clear hi)) | ((with_reducible refine gate_dst (N := 15) rfl ?_); refine Kd.R_lit (Kd.int .i64) _ 3 ?hg (N := 15) ?hd (xs := ([0, 7, 12, 32, 64] : List Int)) (inner := [.int .i64 0, .int .i64 7, .int .i64 12, .int .i64 32, .int .i64 64]) (ok := fun _ => True) (okp := fun _ => True) ?hr ?hp (fun _ hk => hk) trivial (Below.refl _ _) (Nat.le_refl _) (by simp) ?_; (case hd => rfl); (case hg => rfl); (case hr => first | (go_simp; done) | (go_simp; rfl)); (case hp => exact (Reps.one (show Kd.M (Kd.int .i64) _ _ _ 0 [.int .i64 0] from rfl) (Reps.one (show Kd.M (Kd.int .i64) _ _ _ 7 [.int .i64 7] from rfl) (Reps.one (show Kd.M (Kd.int .i64) _ _ _ 12 [.int .i64 12] from rfl) (Reps.one (show Kd.M (Kd.int .i64) _ _ _ 32 [.int .i64 32] from rfl) (Reps.one (show Kd.M (Kd.int .i64) _ _ _ 64 [.int .i64 64] from rfl) (Reps.none _ _))))))); intro v196 w33 ho34 hb hg_ hnew_; clear hg_ hnew_; (first | rw [← Ny195.out] at ho34 | (simp only [Int.reduceToNat] at ho34; rw [← Ny195.out] at ho34)); have n0_ := Aside0.mk (Kd.R_lower ho34 (keep_size (w := w) (g := g) (row := none) (by repeat (first | (with_reducible first | exact HK.out | apply KeepBut.set_ | apply keep_drewN | apply keep_drew | apply keep_alloc) | exact HK.out)))); have n1_ := Aside0.mk (IsS61.below (by repeat (first | (with_reducible first | exact HI0.out | apply IsS61.alloc | apply IsS61.drewN | apply IsS61.drew | apply IsS61.set_1 | apply IsS61.set_2) | exact HI0.out)) hb); have n2_ := Aside0.mk (KeepBut.trans (by repeat (first | (with_reducible first | exact HK.out | apply KeepBut.set_ | apply keep_drewN | apply keep_drew | apply keep_alloc) | exact HK.out)) (KeepBut.of_below hb g none) (.inl rfl)); have n3_ := Aside0.mk (below_step (by repeat (first | (with_reducible first | exact HB.out | apply below_alloc | apply pw_below_drewN | apply below_drew1 | refine below_set ?_ (IsS61.ge HI0.out)) | exact HB.out)) hb); clear HI0; clear HK; clear HB; have HO197 := n0_; have HI0 := n1_; have HK := n2_; have HB := n3_; clear n0_ n1_ n2_ n3_; clear hb ho34; obtain ⟨Ao35, co35, eo35⟩ := Kd.R_slice HO197.out; subst eo35; have p198 : 0 ≤ (x3_1 : Int) := of_decide_eq_true (by first | (with_reducible assumption) | assumption); have q198 : x3_1 < (y195.length : Int) := of_decide_eq_true (by first | (with_reducible assumption) | assumption); obtain ⟨ad198, e198, hx198_0⟩ := Kd.at_int (Kd.R_reads' HO197.out).2.2 x3_1 p198 q198; cases e198; replace p198 := eq_true p198; replace q198 := eq_true q198) | ((with_reducible refine gate_callee (f := 31) rfl ?_); refine goesL_ (some 21) rfl rfl Tryd.func31 (by kernel_rfl) rfl #[.pointer (some ⟨g, 0, none⟩), .int .i64 (rd y195 x3_1)] rfl (by (try simp only [List.map_toArray, List.map_cons, List.map_nil]); first | done | rfl | (simp only [List.length_drop, List.length_take]; rfl)) ?_; (with_reducible refine (dryrotref11_in_take.calls k1 g s0_0 t193 t194 (rd y195 x3_1) t199 t200 t201 w0 _ ?side1 ?side2 A8.out).mono ?_); (case side1 => repeat (first | (with_reducible first | exact HI0.out | apply IsS61.alloc | apply IsS61.drewN | apply IsS61.drew | apply IsS61.set_1 | apply IsS61.set_2) | exact HI0.out)); (case side2 => repeat (first | (with_reducible first | exact HB.out | apply below_alloc | apply pw_below_drewN | apply below_drew1 | refine below_set ?_ (IsS61.ge HI0.out)) | exact HB.out)); rintro e w36 ⟨rfl, hi, hb, hk⟩; refine ⟨_, rfl, ?_⟩; have n0_ := Aside0.mk (Kd.R_mono (Kd.R_keep (IsS61.apart (show IsS61 w0 _ g s0_0 t193 t194 from by repeat (first | (with_reducible first | exact HI0.out | apply IsS61.alloc | apply IsS61.drewN | apply IsS61.drew | apply IsS61.set_1 | apply IsS61.set_2) | exact HI0.out)) (by (with_reducible repeat (first | apply Kd.R_alloc | apply Kd.R_drewN | apply Kd.R_drew)); exact HO197.out) (by decide)) hk (fun _ h => h.2)) (fun _ h => h.1)); have n1_ := Aside0.mk (KeepBut.trans (by repeat (first | (with_reducible first | exact HK.out | apply KeepBut.set_ | apply keep_drewN | apply keep_drew | apply keep_alloc) | exact HK.out)) hk (.inl rfl)); have n2_ := Aside0.mk (hb); have n3_ := Aside0.mk (hi); clear HO197; clear HK; clear HB; clear HI0; have HO197 := n0_; have HK := n1_; have HB := n2_; have HI0 := n3_; clear n0_ n1_ n2_ n3_; (try clear hb); (try clear hb2); (try clear hk); (try clear hi)))
                go_ret
                exact ⟨by first | rfl | (simp [errW_none, errW_some] <;> rfl) | (simp [*, errW_none, errW_some] <;> rfl), by repeat (first | (with_reducible first | exact HI0.out | apply IsS61.alloc | apply IsS61.drewN | apply IsS61.drew | apply IsS61.set_1 | apply IsS61.set_2) | exact HI0.out), by repeat (first | (with_reducible first | exact HB.out | apply below_alloc | apply pw_below_drewN | apply below_drew1 | refine below_set ?_ (IsS61.ge HI0.out)) | exact HB.out), by repeat (first | (with_reducible first | exact HK.out | apply KeepBut.set_ | apply keep_drewN | apply keep_drew | apply keep_alloc) | exact HK.out)⟩
            · rw [if_neg c7] at H
              exact absurd H (by simp)
          · rw [if_neg c6] at H
            exact absurd H (by simp)
      · rw [if_neg c2] at H
        have c2b0 : decide (x3_1 < 4) = false := decide_eq_false c2
        clear c2
        obtain ⟨y202, hy202⟩ : ∃ y_ : List Int, y_ = (([0, 7, 12, 32, 64] : List Int)) := ⟨_, rfl⟩
        replace H : (if 0 ≤ x3_1 then (if x3_1 < (y202.length : Int) then ((dryrotref11_in_take.f k1 s0_0 x1001_1 x1002_1 (rd y202 x3_1)).bind fun bt206 => (if (rd y202 x3_1) > 0 then (if (rd y202 x3_1) < 64 then (if 0 ≤ (wrap64 ((rd y202 x3_1) - 1)) then (if (wrap64 (bt206.1)) ≥ (shl .i64 1 (wrap64 ((rd y202 x3_1) - 1))) then (if 0 ≤ (rd y202 x3_1) then (some (wrap64 ((wrap64 (bt206.1)) - (shl .i64 1 (rd y202 x3_1))), bt206.2.1, bt206.2.2)) else (none)) else (some (wrap64 (bt206.1), bt206.2.1, bt206.2.2))) else (none)) else (some (wrap64 (bt206.1), bt206.2.1, bt206.2.2))) else (some (wrap64 (bt206.1), bt206.2.1, bt206.2.2)))) else (none)) else (none)) = some (r1, r2, r3) := by first | (rw [hy202]; with_reducible exact H) | (have H2_ := (Option.bind_some _ _).symm.trans H; rw [hy202]; with_reducible exact H2_) | (have H2_ := (Option.bind_some _ _).symm.trans H; with_reducible exact H2_) | with_reducible exact H | (rw [hy202]; exact H) | exact H
        have Ny202 := Aside0.mk hy202
        clear hy202
        by_cases c37 : 0 ≤ x3_1
        · rw [if_pos c37] at H
          have c37b0 : decide (0 ≤ x3_1) = true := decide_eq_true c37
          clear c37
          by_cases c38 : x3_1 < (y202.length : Int)
          · rw [if_pos c38] at H
            have c38b0 : decide (x3_1 < (y202.length : Int)) = true := decide_eq_true c38
            clear c38
            replace H := Option.bind_eq_some_iff.mp H
            obtain ⟨⟨t206, t207, t208⟩, A390, H⟩ := H
            replace H : (if (rd y202 x3_1) > 0 then (if (rd y202 x3_1) < 64 then (if 0 ≤ (wrap64 ((rd y202 x3_1) - 1)) then (if (wrap64 (t206)) ≥ (shl .i64 1 (wrap64 ((rd y202 x3_1) - 1))) then (if 0 ≤ (rd y202 x3_1) then (some (wrap64 ((wrap64 (t206)) - (shl .i64 1 (rd y202 x3_1))), t207, t208)) else (none)) else (some (wrap64 (t206), t207, t208))) else (none)) else (some (wrap64 (t206), t207, t208))) else (some (wrap64 (t206), t207, t208))) = some (r1, r2, r3) := H
            have A39 := Aside0.mk A390
            clear A390
            by_cases c40 : (rd y202 x3_1) > 0
            · rw [if_pos c40] at H
              have c40b0 : decide (0 < (rd y202 x3_1)) = true := decide_eq_true c40
              clear c40
              by_cases c41 : (rd y202 x3_1) < 64
              · rw [if_pos c41] at H
                have c41b0 : decide ((rd y202 x3_1) < 64) = true := decide_eq_true c41
                clear c41
                obtain ⟨ji42, hji42⟩ : ∃ j_ : Int, (wrap64 ((rd y202 x3_1) - 1)) = j_ := ⟨_, rfl⟩
                replace H : (if 0 ≤ (ji42) then (if (wrap64 (t206)) ≥ (shl .i64 1 (ji42)) then (if 0 ≤ (rd y202 x3_1) then (some (wrap64 ((wrap64 (t206)) - (shl .i64 1 (rd y202 x3_1))), t207, t208)) else (none)) else (some (wrap64 (t206), t207, t208))) else (none)) = some (r1, r2, r3) := by first | (rw [hji42] at H; exact H) | (simp only [hji42] at H ⊢; exact H)
                (try rw [hji42] at A39)
                have hji42w : (IntKind.i64.wrap ((rd y202 x3_1) - 1)) = ji42 := (i64_w _).trans hji42
                by_cases c43 : 0 ≤ (ji42)
                · rw [if_pos c43] at H
                  have c43b0 := eq_true c43
                  have c43b1 : decide (0 ≤ (ji42)) = true := decide_eq_true c43
                  clear c43
                  obtain ⟨ji44, hji44⟩ : ∃ j_ : Int, (shl .i64 1 (ji42)) = j_ := ⟨_, rfl⟩
                  replace H : (if (wrap64 (t206)) ≥ (ji44) then (if 0 ≤ (rd y202 x3_1) then (some (wrap64 ((wrap64 (t206)) - (shl .i64 1 (rd y202 x3_1))), t207, t208)) else (none)) else (some (wrap64 (t206), t207, t208))) = some (r1, r2, r3) := by first | (rw [hji44] at H; exact H) | (simp only [hji44] at H ⊢; exact H)
                  (try rw [hji44] at A39)
                  have hji44_ : (IntKind.i64.wrap (1 * 2 ^ min (ji42).toNat 64)) = ji44 := hji44
                  have hji44z : (ji42) ≤ 64 → (IntKind.i64.wrap (1 * 2 ^ (ji42).toNat)) = ji44 := shl_small hji44
                  have hji44u : (IntKind.i64.wrap (2 ^ min (ji42).toNat 64)) = ji44 := by have h_ := hji44_; rw [Int.one_mul] at h_; exact h_
                  have hji44v : (ji42) ≤ 64 → (IntKind.i64.wrap (2 ^ (ji42).toNat)) = ji44 := fun hle_ => by have h_ := hji44z hle_; rw [Int.one_mul] at h_; exact h_
                  have hji44y : (wrap64 (1 * 2 ^ min (ji42).toNat 64)) = ji44 := (i64_w _).symm.trans hji44_
                  have hji44x : (ji42) ≤ 64 → (wrap64 (1 * 2 ^ (ji42).toNat)) = ji44 := fun h_ => (i64_w _).symm.trans (hji44z h_)
                  by_cases c45 : (wrap64 (t206)) ≥ (ji44)
                  · rw [if_pos c45] at H
                    have c45b0 : decide ((ji44) ≤ (wrap64 (t206))) = true := decide_eq_true c45
                    clear c45
                    by_cases c46 : 0 ≤ (rd y202 x3_1)
                    · rw [if_pos c46] at H
                      have c46b0 := eq_true c46
                      have c46b1 : decide (0 ≤ (rd y202 x3_1)) = true := decide_eq_true c46
                      clear c46
                      obtain ⟨ji47, hji47⟩ : ∃ j_ : Int, (shl .i64 1 (rd y202 x3_1)) = j_ := ⟨_, rfl⟩
                      replace H : (some (wrap64 ((wrap64 (t206)) - (ji47)), t207, t208)) = some (r1, r2, r3) := by first | (rw [hji47] at H; exact H) | (simp only [hji47] at H ⊢; exact H)
                      (try rw [hji47] at A39)
                      have hji47_ : (IntKind.i64.wrap (1 * 2 ^ min (rd y202 x3_1).toNat 64)) = ji47 := hji47
                      have hji47z : (rd y202 x3_1) ≤ 64 → (IntKind.i64.wrap (1 * 2 ^ (rd y202 x3_1).toNat)) = ji47 := shl_small hji47
                      have hji47u : (IntKind.i64.wrap (2 ^ min (rd y202 x3_1).toNat 64)) = ji47 := by have h_ := hji47_; rw [Int.one_mul] at h_; exact h_
                      have hji47v : (rd y202 x3_1) ≤ 64 → (IntKind.i64.wrap (2 ^ (rd y202 x3_1).toNat)) = ji47 := fun hle_ => by have h_ := hji47z hle_; rw [Int.one_mul] at h_; exact h_
                      have hji47y : (wrap64 (1 * 2 ^ min (rd y202 x3_1).toNat 64)) = ji47 := (i64_w _).symm.trans hji47_
                      have hji47x : (rd y202 x3_1) ≤ 64 → (wrap64 (1 * 2 ^ (rd y202 x3_1).toNat)) = ji47 := fun h_ => (i64_w _).symm.trans (hji47z h_)
                      simp only [Option.some.injEq, Prod.mk.injEq] at H
                      obtain ⟨rfl, rfl, rfl⟩ := H
                      go_wp2_with (first | ((with_reducible refine gate_dst (N := 15) rfl ?_); refine Kd.R_lit (Kd.int .i64) _ 3 ?hg (N := 15) ?hd (xs := ([0, 7, 12, 32, 64] : List Int)) (inner := [.int .i64 0, .int .i64 7, .int .i64 12, .int .i64 32, .int .i64 64]) (ok := fun _ => True) (okp := fun _ => True) ?hr ?hp (fun _ hk => hk) trivial (Below.refl _ _) (Nat.le_refl _) (by simp) ?_; (case hd => rfl); (case hg => rfl); (case hr => first | (go_simp; done) | (go_simp; rfl)); (case hp => exact (Reps.one (show Kd.M (Kd.int .i64) _ _ _ 0 [.int .i64 0] from rfl) (Reps.one (show Kd.M (Kd.int .i64) _ _ _ 7 [.int .i64 7] from rfl) (Reps.one (show Kd.M (Kd.int .i64) _ _ _ 12 [.int .i64 12] from rfl) (Reps.one (show Kd.M (Kd.int .i64) _ _ _ 32 [.int .i64 32] from rfl) (Reps.one (show Kd.M (Kd.int .i64) _ _ _ 64 [.int .i64 64] from rfl) (Reps.none _ _))))))); intro v203 w48 ho49 hb hg_ hnew_; clear hg_ hnew_; (first | rw [← Ny202.out] at ho49 | (simp only [Int.reduceToNat] at ho49; rw [← Ny202.out] at ho49)); have n0_ := Aside0.mk (Kd.R_lower ho49 (keep_size (w := w) (g := g) (row := none) (by repeat (first | (with_reducible first | exact HK.out | apply KeepBut.set_ | apply keep_drewN | apply keep_drew | apply keep_alloc) | exact HK.out)))); have n1_ := Aside0.mk (IsS61.below (by repeat (first | (with_reducible first | exact HI0.out | apply IsS61.alloc | apply IsS61.drewN | apply IsS61.drew | apply IsS61.set_1 | apply IsS61.set_2) | exact HI0.out)) hb); have n2_ := Aside0.mk (KeepBut.trans (by repeat (first | (with_reducible first | exact HK.out | apply KeepBut.set_ | apply keep_drewN | apply keep_drew | apply keep_alloc) | exact HK.out)) (KeepBut.of_below hb g none) (.inl rfl)); have n3_ := Aside0.mk (below_step (by repeat (first | (with_reducible first | exact HB.out | apply below_alloc | apply pw_below_drewN | apply below_drew1 | refine below_set ?_ (IsS61.ge HI0.out)) | exact HB.out)) hb); clear HI0; clear HK; clear HB; have HO204 := n0_; have HI0 := n1_; have HK := n2_; have HB := n3_; clear n0_ n1_ n2_ n3_; clear hb ho49; obtain ⟨Ao50, co50, eo50⟩ := Kd.R_slice HO204.out; subst eo50; have p205 : 0 ≤ (x3_1 : Int) := of_decide_eq_true (by first | (with_reducible assumption) | assumption); have q205 : x3_1 < (y202.length : Int) := of_decide_eq_true (by first | (with_reducible assumption) | assumption); obtain ⟨ad205, e205, hx205_0⟩ := Kd.at_int (Kd.R_reads' HO204.out).2.2 x3_1 p205 q205; cases e205; replace p205 := eq_true p205; replace q205 := eq_true q205) | ((with_reducible refine gate_callee (f := 31) rfl ?_); refine goesL_ (some 21) rfl rfl Tryd.func31 (by kernel_rfl) rfl #[.pointer (some ⟨g, 0, none⟩), .int .i64 (rd y202 x3_1)] rfl (by (try simp only [List.map_toArray, List.map_cons, List.map_nil]); first | done | rfl | (simp only [List.length_drop, List.length_take]; rfl)) ?_; (with_reducible refine (dryrotref11_in_take.calls k1 g s0_0 x1001_1 x1002_1 (rd y202 x3_1) t206 t207 t208 w0 _ ?side1 ?side2 A39.out).mono ?_); (case side1 => repeat (first | (with_reducible first | exact HI0.out | apply IsS61.alloc | apply IsS61.drewN | apply IsS61.drew | apply IsS61.set_1 | apply IsS61.set_2) | exact HI0.out)); (case side2 => repeat (first | (with_reducible first | exact HB.out | apply below_alloc | apply pw_below_drewN | apply below_drew1 | refine below_set ?_ (IsS61.ge HI0.out)) | exact HB.out)); rintro e w51 ⟨rfl, hi, hb, hk⟩; refine ⟨_, rfl, ?_⟩; have n0_ := Aside0.mk (Kd.R_mono (Kd.R_keep (IsS61.apart (show IsS61 w0 _ g s0_0 x1001_1 x1002_1 from by repeat (first | (with_reducible first | exact HI0.out | apply IsS61.alloc | apply IsS61.drewN | apply IsS61.drew | apply IsS61.set_1 | apply IsS61.set_2) | exact HI0.out)) (by (with_reducible repeat (first | apply Kd.R_alloc | apply Kd.R_drewN | apply Kd.R_drew)); exact HO204.out) (by decide)) hk (fun _ h => h.2)) (fun _ h => h.1)); have n1_ := Aside0.mk (KeepBut.trans (by repeat (first | (with_reducible first | exact HK.out | apply KeepBut.set_ | apply keep_drewN | apply keep_drew | apply keep_alloc) | exact HK.out)) hk (.inl rfl)); have n2_ := Aside0.mk (hb); have n3_ := Aside0.mk (hi); clear HO204; clear HK; clear HB; clear HI0; have HO204 := n0_; have HK := n1_; have HB := n2_; have HI0 := n3_; clear n0_ n1_ n2_ n3_; (try clear hb); (try clear hb2); (try clear hk); (try clear hi)))
                      go_ret
                      exact ⟨by first | rfl | (simp [errW_none, errW_some] <;> rfl) | (simp only [← hji42, ← hji44, ← hji47]; first | rfl | (simp [errW_none, errW_some] <;> rfl)) | (simp [*, errW_none, errW_some] <;> rfl), by repeat (first | (with_reducible first | exact HI0.out | apply IsS61.alloc | apply IsS61.drewN | apply IsS61.drew | apply IsS61.set_1 | apply IsS61.set_2) | exact HI0.out), by repeat (first | (with_reducible first | exact HB.out | apply below_alloc | apply pw_below_drewN | apply below_drew1 | refine below_set ?_ (IsS61.ge HI0.out)) | exact HB.out), by repeat (first | (with_reducible first | exact HK.out | apply KeepBut.set_ | apply keep_drewN | apply keep_drew | apply keep_alloc) | exact HK.out)⟩
                    · rw [if_neg c46] at H
                      exact absurd H (by simp)
                  · rw [if_neg c45] at H
                    have c45b0 : decide ((ji44) ≤ (wrap64 (t206))) = false := decide_eq_false c45
                    clear c45
                    simp only [Option.some.injEq, Prod.mk.injEq] at H
                    obtain ⟨rfl, rfl, rfl⟩ := H
                    go_wp2_with (first | ((with_reducible refine gate_dst (N := 15) rfl ?_); refine Kd.R_lit (Kd.int .i64) _ 3 ?hg (N := 15) ?hd (xs := ([0, 7, 12, 32, 64] : List Int)) (inner := [.int .i64 0, .int .i64 7, .int .i64 12, .int .i64 32, .int .i64 64]) (ok := fun _ => True) (okp := fun _ => True) ?hr ?hp (fun _ hk => hk) trivial (Below.refl _ _) (Nat.le_refl _) (by simp) ?_; (case hd => rfl); (case hg => rfl); (case hr => first | (go_simp; done) | (go_simp; rfl)); (case hp => exact (Reps.one (show Kd.M (Kd.int .i64) _ _ _ 0 [.int .i64 0] from rfl) (Reps.one (show Kd.M (Kd.int .i64) _ _ _ 7 [.int .i64 7] from rfl) (Reps.one (show Kd.M (Kd.int .i64) _ _ _ 12 [.int .i64 12] from rfl) (Reps.one (show Kd.M (Kd.int .i64) _ _ _ 32 [.int .i64 32] from rfl) (Reps.one (show Kd.M (Kd.int .i64) _ _ _ 64 [.int .i64 64] from rfl) (Reps.none _ _))))))); intro v203 w52 ho53 hb hg_ hnew_; clear hg_ hnew_; (first | rw [← Ny202.out] at ho53 | (simp only [Int.reduceToNat] at ho53; rw [← Ny202.out] at ho53)); have n0_ := Aside0.mk (Kd.R_lower ho53 (keep_size (w := w) (g := g) (row := none) (by repeat (first | (with_reducible first | exact HK.out | apply KeepBut.set_ | apply keep_drewN | apply keep_drew | apply keep_alloc) | exact HK.out)))); have n1_ := Aside0.mk (IsS61.below (by repeat (first | (with_reducible first | exact HI0.out | apply IsS61.alloc | apply IsS61.drewN | apply IsS61.drew | apply IsS61.set_1 | apply IsS61.set_2) | exact HI0.out)) hb); have n2_ := Aside0.mk (KeepBut.trans (by repeat (first | (with_reducible first | exact HK.out | apply KeepBut.set_ | apply keep_drewN | apply keep_drew | apply keep_alloc) | exact HK.out)) (KeepBut.of_below hb g none) (.inl rfl)); have n3_ := Aside0.mk (below_step (by repeat (first | (with_reducible first | exact HB.out | apply below_alloc | apply pw_below_drewN | apply below_drew1 | refine below_set ?_ (IsS61.ge HI0.out)) | exact HB.out)) hb); clear HI0; clear HK; clear HB; have HO204 := n0_; have HI0 := n1_; have HK := n2_; have HB := n3_; clear n0_ n1_ n2_ n3_; clear hb ho53; obtain ⟨Ao54, co54, eo54⟩ := Kd.R_slice HO204.out; subst eo54; have p205 : 0 ≤ (x3_1 : Int) := of_decide_eq_true (by first | (with_reducible assumption) | assumption); have q205 : x3_1 < (y202.length : Int) := of_decide_eq_true (by first | (with_reducible assumption) | assumption); obtain ⟨ad205, e205, hx205_0⟩ := Kd.at_int (Kd.R_reads' HO204.out).2.2 x3_1 p205 q205; cases e205; replace p205 := eq_true p205; replace q205 := eq_true q205) | ((with_reducible refine gate_callee (f := 31) rfl ?_); refine goesL_ (some 21) rfl rfl Tryd.func31 (by kernel_rfl) rfl #[.pointer (some ⟨g, 0, none⟩), .int .i64 (rd y202 x3_1)] rfl (by (try simp only [List.map_toArray, List.map_cons, List.map_nil]); first | done | rfl | (simp only [List.length_drop, List.length_take]; rfl)) ?_; (with_reducible refine (dryrotref11_in_take.calls k1 g s0_0 x1001_1 x1002_1 (rd y202 x3_1) t206 t207 t208 w0 _ ?side1 ?side2 A39.out).mono ?_); (case side1 => repeat (first | (with_reducible first | exact HI0.out | apply IsS61.alloc | apply IsS61.drewN | apply IsS61.drew | apply IsS61.set_1 | apply IsS61.set_2) | exact HI0.out)); (case side2 => repeat (first | (with_reducible first | exact HB.out | apply below_alloc | apply pw_below_drewN | apply below_drew1 | refine below_set ?_ (IsS61.ge HI0.out)) | exact HB.out)); rintro e w55 ⟨rfl, hi, hb, hk⟩; refine ⟨_, rfl, ?_⟩; have n0_ := Aside0.mk (Kd.R_mono (Kd.R_keep (IsS61.apart (show IsS61 w0 _ g s0_0 x1001_1 x1002_1 from by repeat (first | (with_reducible first | exact HI0.out | apply IsS61.alloc | apply IsS61.drewN | apply IsS61.drew | apply IsS61.set_1 | apply IsS61.set_2) | exact HI0.out)) (by (with_reducible repeat (first | apply Kd.R_alloc | apply Kd.R_drewN | apply Kd.R_drew)); exact HO204.out) (by decide)) hk (fun _ h => h.2)) (fun _ h => h.1)); have n1_ := Aside0.mk (KeepBut.trans (by repeat (first | (with_reducible first | exact HK.out | apply KeepBut.set_ | apply keep_drewN | apply keep_drew | apply keep_alloc) | exact HK.out)) hk (.inl rfl)); have n2_ := Aside0.mk (hb); have n3_ := Aside0.mk (hi); clear HO204; clear HK; clear HB; clear HI0; have HO204 := n0_; have HK := n1_; have HB := n2_; have HI0 := n3_; clear n0_ n1_ n2_ n3_; (try clear hb); (try clear hb2); (try clear hk); (try clear hi)))
                    go_ret
                    exact ⟨by first | rfl | (simp [errW_none, errW_some] <;> rfl) | (simp only [← hji42, ← hji44]; first | rfl | (simp [errW_none, errW_some] <;> rfl)) | (simp [*, errW_none, errW_some] <;> rfl), by repeat (first | (with_reducible first | exact HI0.out | apply IsS61.alloc | apply IsS61.drewN | apply IsS61.drew | apply IsS61.set_1 | apply IsS61.set_2) | exact HI0.out), by repeat (first | (with_reducible first | exact HB.out | apply below_alloc | apply pw_below_drewN | apply below_drew1 | refine below_set ?_ (IsS61.ge HI0.out)) | exact HB.out), by repeat (first | (with_reducible first | exact HK.out | apply KeepBut.set_ | apply keep_drewN | apply keep_drew | apply keep_alloc) | exact HK.out)⟩
                · rw [if_neg c43] at H
                  exact absurd H (by simp)
              · rw [if_neg c41] at H
                have c41b0 : decide ((rd y202 x3_1) < 64) = false := decide_eq_false c41
                clear c41
                simp only [Option.some.injEq, Prod.mk.injEq] at H
                obtain ⟨rfl, rfl, rfl⟩ := H
                go_wp2_with (first | ((with_reducible refine gate_dst (N := 15) rfl ?_); refine Kd.R_lit (Kd.int .i64) _ 3 ?hg (N := 15) ?hd (xs := ([0, 7, 12, 32, 64] : List Int)) (inner := [.int .i64 0, .int .i64 7, .int .i64 12, .int .i64 32, .int .i64 64]) (ok := fun _ => True) (okp := fun _ => True) ?hr ?hp (fun _ hk => hk) trivial (Below.refl _ _) (Nat.le_refl _) (by simp) ?_; (case hd => rfl); (case hg => rfl); (case hr => first | (go_simp; done) | (go_simp; rfl)); (case hp => exact (Reps.one (show Kd.M (Kd.int .i64) _ _ _ 0 [.int .i64 0] from rfl) (Reps.one (show Kd.M (Kd.int .i64) _ _ _ 7 [.int .i64 7] from rfl) (Reps.one (show Kd.M (Kd.int .i64) _ _ _ 12 [.int .i64 12] from rfl) (Reps.one (show Kd.M (Kd.int .i64) _ _ _ 32 [.int .i64 32] from rfl) (Reps.one (show Kd.M (Kd.int .i64) _ _ _ 64 [.int .i64 64] from rfl) (Reps.none _ _))))))); intro v203 w56 ho57 hb hg_ hnew_; clear hg_ hnew_; (first | rw [← Ny202.out] at ho57 | (simp only [Int.reduceToNat] at ho57; rw [← Ny202.out] at ho57)); have n0_ := Aside0.mk (Kd.R_lower ho57 (keep_size (w := w) (g := g) (row := none) (by repeat (first | (with_reducible first | exact HK.out | apply KeepBut.set_ | apply keep_drewN | apply keep_drew | apply keep_alloc) | exact HK.out)))); have n1_ := Aside0.mk (IsS61.below (by repeat (first | (with_reducible first | exact HI0.out | apply IsS61.alloc | apply IsS61.drewN | apply IsS61.drew | apply IsS61.set_1 | apply IsS61.set_2) | exact HI0.out)) hb); have n2_ := Aside0.mk (KeepBut.trans (by repeat (first | (with_reducible first | exact HK.out | apply KeepBut.set_ | apply keep_drewN | apply keep_drew | apply keep_alloc) | exact HK.out)) (KeepBut.of_below hb g none) (.inl rfl)); have n3_ := Aside0.mk (below_step (by repeat (first | (with_reducible first | exact HB.out | apply below_alloc | apply pw_below_drewN | apply below_drew1 | refine below_set ?_ (IsS61.ge HI0.out)) | exact HB.out)) hb); clear HI0; clear HK; clear HB; have HO204 := n0_; have HI0 := n1_; have HK := n2_; have HB := n3_; clear n0_ n1_ n2_ n3_; clear hb ho57; obtain ⟨Ao58, co58, eo58⟩ := Kd.R_slice HO204.out; subst eo58; have p205 : 0 ≤ (x3_1 : Int) := of_decide_eq_true (by first | (with_reducible assumption) | assumption); have q205 : x3_1 < (y202.length : Int) := of_decide_eq_true (by first | (with_reducible assumption) | assumption); obtain ⟨ad205, e205, hx205_0⟩ := Kd.at_int (Kd.R_reads' HO204.out).2.2 x3_1 p205 q205; cases e205; replace p205 := eq_true p205; replace q205 := eq_true q205) | ((with_reducible refine gate_callee (f := 31) rfl ?_); refine goesL_ (some 21) rfl rfl Tryd.func31 (by kernel_rfl) rfl #[.pointer (some ⟨g, 0, none⟩), .int .i64 (rd y202 x3_1)] rfl (by (try simp only [List.map_toArray, List.map_cons, List.map_nil]); first | done | rfl | (simp only [List.length_drop, List.length_take]; rfl)) ?_; (with_reducible refine (dryrotref11_in_take.calls k1 g s0_0 x1001_1 x1002_1 (rd y202 x3_1) t206 t207 t208 w0 _ ?side1 ?side2 A39.out).mono ?_); (case side1 => repeat (first | (with_reducible first | exact HI0.out | apply IsS61.alloc | apply IsS61.drewN | apply IsS61.drew | apply IsS61.set_1 | apply IsS61.set_2) | exact HI0.out)); (case side2 => repeat (first | (with_reducible first | exact HB.out | apply below_alloc | apply pw_below_drewN | apply below_drew1 | refine below_set ?_ (IsS61.ge HI0.out)) | exact HB.out)); rintro e w59 ⟨rfl, hi, hb, hk⟩; refine ⟨_, rfl, ?_⟩; have n0_ := Aside0.mk (Kd.R_mono (Kd.R_keep (IsS61.apart (show IsS61 w0 _ g s0_0 x1001_1 x1002_1 from by repeat (first | (with_reducible first | exact HI0.out | apply IsS61.alloc | apply IsS61.drewN | apply IsS61.drew | apply IsS61.set_1 | apply IsS61.set_2) | exact HI0.out)) (by (with_reducible repeat (first | apply Kd.R_alloc | apply Kd.R_drewN | apply Kd.R_drew)); exact HO204.out) (by decide)) hk (fun _ h => h.2)) (fun _ h => h.1)); have n1_ := Aside0.mk (KeepBut.trans (by repeat (first | (with_reducible first | exact HK.out | apply KeepBut.set_ | apply keep_drewN | apply keep_drew | apply keep_alloc) | exact HK.out)) hk (.inl rfl)); have n2_ := Aside0.mk (hb); have n3_ := Aside0.mk (hi); clear HO204; clear HK; clear HB; clear HI0; have HO204 := n0_; have HK := n1_; have HB := n2_; have HI0 := n3_; clear n0_ n1_ n2_ n3_; (try clear hb); (try clear hb2); (try clear hk); (try clear hi)))
                go_ret
                exact ⟨by first | rfl | (simp [errW_none, errW_some] <;> rfl) | (simp [*, errW_none, errW_some] <;> rfl), by repeat (first | (with_reducible first | exact HI0.out | apply IsS61.alloc | apply IsS61.drewN | apply IsS61.drew | apply IsS61.set_1 | apply IsS61.set_2) | exact HI0.out), by repeat (first | (with_reducible first | exact HB.out | apply below_alloc | apply pw_below_drewN | apply below_drew1 | refine below_set ?_ (IsS61.ge HI0.out)) | exact HB.out), by repeat (first | (with_reducible first | exact HK.out | apply KeepBut.set_ | apply keep_drewN | apply keep_drew | apply keep_alloc) | exact HK.out)⟩
            · rw [if_neg c40] at H
              have c40b0 : decide (0 < (rd y202 x3_1)) = false := decide_eq_false c40
              clear c40
              simp only [Option.some.injEq, Prod.mk.injEq] at H
              obtain ⟨rfl, rfl, rfl⟩ := H
              go_wp2_with (first | ((with_reducible refine gate_dst (N := 15) rfl ?_); refine Kd.R_lit (Kd.int .i64) _ 3 ?hg (N := 15) ?hd (xs := ([0, 7, 12, 32, 64] : List Int)) (inner := [.int .i64 0, .int .i64 7, .int .i64 12, .int .i64 32, .int .i64 64]) (ok := fun _ => True) (okp := fun _ => True) ?hr ?hp (fun _ hk => hk) trivial (Below.refl _ _) (Nat.le_refl _) (by simp) ?_; (case hd => rfl); (case hg => rfl); (case hr => first | (go_simp; done) | (go_simp; rfl)); (case hp => exact (Reps.one (show Kd.M (Kd.int .i64) _ _ _ 0 [.int .i64 0] from rfl) (Reps.one (show Kd.M (Kd.int .i64) _ _ _ 7 [.int .i64 7] from rfl) (Reps.one (show Kd.M (Kd.int .i64) _ _ _ 12 [.int .i64 12] from rfl) (Reps.one (show Kd.M (Kd.int .i64) _ _ _ 32 [.int .i64 32] from rfl) (Reps.one (show Kd.M (Kd.int .i64) _ _ _ 64 [.int .i64 64] from rfl) (Reps.none _ _))))))); intro v203 w60 ho61 hb hg_ hnew_; clear hg_ hnew_; (first | rw [← Ny202.out] at ho61 | (simp only [Int.reduceToNat] at ho61; rw [← Ny202.out] at ho61)); have n0_ := Aside0.mk (Kd.R_lower ho61 (keep_size (w := w) (g := g) (row := none) (by repeat (first | (with_reducible first | exact HK.out | apply KeepBut.set_ | apply keep_drewN | apply keep_drew | apply keep_alloc) | exact HK.out)))); have n1_ := Aside0.mk (IsS61.below (by repeat (first | (with_reducible first | exact HI0.out | apply IsS61.alloc | apply IsS61.drewN | apply IsS61.drew | apply IsS61.set_1 | apply IsS61.set_2) | exact HI0.out)) hb); have n2_ := Aside0.mk (KeepBut.trans (by repeat (first | (with_reducible first | exact HK.out | apply KeepBut.set_ | apply keep_drewN | apply keep_drew | apply keep_alloc) | exact HK.out)) (KeepBut.of_below hb g none) (.inl rfl)); have n3_ := Aside0.mk (below_step (by repeat (first | (with_reducible first | exact HB.out | apply below_alloc | apply pw_below_drewN | apply below_drew1 | refine below_set ?_ (IsS61.ge HI0.out)) | exact HB.out)) hb); clear HI0; clear HK; clear HB; have HO204 := n0_; have HI0 := n1_; have HK := n2_; have HB := n3_; clear n0_ n1_ n2_ n3_; clear hb ho61; obtain ⟨Ao62, co62, eo62⟩ := Kd.R_slice HO204.out; subst eo62; have p205 : 0 ≤ (x3_1 : Int) := of_decide_eq_true (by first | (with_reducible assumption) | assumption); have q205 : x3_1 < (y202.length : Int) := of_decide_eq_true (by first | (with_reducible assumption) | assumption); obtain ⟨ad205, e205, hx205_0⟩ := Kd.at_int (Kd.R_reads' HO204.out).2.2 x3_1 p205 q205; cases e205; replace p205 := eq_true p205; replace q205 := eq_true q205) | ((with_reducible refine gate_callee (f := 31) rfl ?_); refine goesL_ (some 21) rfl rfl Tryd.func31 (by kernel_rfl) rfl #[.pointer (some ⟨g, 0, none⟩), .int .i64 (rd y202 x3_1)] rfl (by (try simp only [List.map_toArray, List.map_cons, List.map_nil]); first | done | rfl | (simp only [List.length_drop, List.length_take]; rfl)) ?_; (with_reducible refine (dryrotref11_in_take.calls k1 g s0_0 x1001_1 x1002_1 (rd y202 x3_1) t206 t207 t208 w0 _ ?side1 ?side2 A39.out).mono ?_); (case side1 => repeat (first | (with_reducible first | exact HI0.out | apply IsS61.alloc | apply IsS61.drewN | apply IsS61.drew | apply IsS61.set_1 | apply IsS61.set_2) | exact HI0.out)); (case side2 => repeat (first | (with_reducible first | exact HB.out | apply below_alloc | apply pw_below_drewN | apply below_drew1 | refine below_set ?_ (IsS61.ge HI0.out)) | exact HB.out)); rintro e w63 ⟨rfl, hi, hb, hk⟩; refine ⟨_, rfl, ?_⟩; have n0_ := Aside0.mk (Kd.R_mono (Kd.R_keep (IsS61.apart (show IsS61 w0 _ g s0_0 x1001_1 x1002_1 from by repeat (first | (with_reducible first | exact HI0.out | apply IsS61.alloc | apply IsS61.drewN | apply IsS61.drew | apply IsS61.set_1 | apply IsS61.set_2) | exact HI0.out)) (by (with_reducible repeat (first | apply Kd.R_alloc | apply Kd.R_drewN | apply Kd.R_drew)); exact HO204.out) (by decide)) hk (fun _ h => h.2)) (fun _ h => h.1)); have n1_ := Aside0.mk (KeepBut.trans (by repeat (first | (with_reducible first | exact HK.out | apply KeepBut.set_ | apply keep_drewN | apply keep_drew | apply keep_alloc) | exact HK.out)) hk (.inl rfl)); have n2_ := Aside0.mk (hb); have n3_ := Aside0.mk (hi); clear HO204; clear HK; clear HB; clear HI0; have HO204 := n0_; have HK := n1_; have HB := n2_; have HI0 := n3_; clear n0_ n1_ n2_ n3_; (try clear hb); (try clear hb2); (try clear hk); (try clear hi)))
              go_ret
              exact ⟨by first | rfl | (simp [errW_none, errW_some] <;> rfl) | (simp [*, errW_none, errW_some] <;> rfl), by repeat (first | (with_reducible first | exact HI0.out | apply IsS61.alloc | apply IsS61.drewN | apply IsS61.drew | apply IsS61.set_1 | apply IsS61.set_2) | exact HI0.out), by repeat (first | (with_reducible first | exact HB.out | apply below_alloc | apply pw_below_drewN | apply below_drew1 | refine below_set ?_ (IsS61.ge HI0.out)) | exact HB.out), by repeat (first | (with_reducible first | exact HK.out | apply KeepBut.set_ | apply keep_drewN | apply keep_drew | apply keep_alloc) | exact HK.out)⟩
          · rw [if_neg c38] at H
            exact absurd H (by simp)
        · rw [if_neg c37] at H
          exact absurd H (by simp)

end Go.Proofs.YtpeekkpdglfbbaaDoor.PA
-- written by wip/gprint.py of this session (it runs the print of the guide's kit over contracts of the session)
namespace Go.Proofs.YtpeekkpdglfbbaaDoor.PA
open Go.RowKit Go.Proofs.YtpeekkpdglfbbaaDoorW.PrintWords Go.Proofs.YtpeekkpdglfbbaaDoorW.PrintLast Go.Proofs.YtpeekkpdglfbbaaDoorW.PrintMore
attribute [local go_sem] max2_int min2_int max_two min_two max_three min_three max_four min_four   -- for this text's walks alone
set_option linter.unusedVariables false
set_option linter.unusedSimpArgs false

/-! ### dryrotref11_in_takeXor: function 33 -/
def dryrotref11_in_takeXor.f (k : Nat) (s0_0 : List Int) (s0_1 : Int) (s0_2 : Bool) : Option (Int × Int × Bool) := (dryrotref11_in_take.f k s0_0 s0_1 s0_2 1).bind fun bt209 => (if bt209.1 = 0 then (some (0, bt209.2.1, bt209.2.2)) else ((dryrotref11_in_take.f k s0_0 bt209.2.1 bt209.2.2 6).bind fun bt212 => ((dryrotref11_in_take.f k s0_0 bt212.2.1 bt212.2.2 6).bind fun bt215 => ((dryrotref11_in_take.f k s0_0 bt215.2.1 bt215.2.2 (wrap64 ((wrap64 (bt215.1)) + 1))).bind fun bt218 => (if (wrap64 ((wrap64 (bt212.1)) + (wrap64 ((wrap64 (bt215.1)) + 1)))) > 64 then (some (0, bt218.2.1, true)) else (if 0 ≤ (wrap64 ((wrap64 (64 - (wrap64 (bt212.1)))) - (wrap64 ((wrap64 (bt215.1)) + 1)))) then (some (shl .u64 bt218.1 (wrap64 ((wrap64 (64 - (wrap64 (bt212.1)))) - (wrap64 ((wrap64 (bt215.1)) + 1)))), bt218.2.1, bt218.2.2)) else (none)))))))
theorem dryrotref11_in_takeXor.mono : ∀ a0 a1 a2 k, LeO (dryrotref11_in_takeXor.f k a0 a1 a2) (dryrotref11_in_takeXor.f (k + 1) a0 a1 a2) := by
  intro a0 a1 a2 k
  unfold dryrotref11_in_takeXor.f
  repeat' first
      | (with_reducible exact dryrotref11_in_take.mono _ _ _ _ _)
      | (with_reducible exact LeO.refl _)
      | (with_reducible exact LeO.none _)
      | (with_reducible refine LeO.ite ?_ ?_)
      | (with_reducible refine LeO.bind ?_ (fun _ => ?_))
      | exact dryrotref11_in_take.mono _ _ _ _ _
      | exact LeO.none _
      | refine LeO.ite ?_ ?_
      | refine LeO.bind ?_ (fun _ => ?_)
set_option maxHeartbeats 8000000 in
set_option maxRecDepth 100000 in
theorem dryrotref11_in_takeXor.calls (k : Nat) (g : Nat) (s0_0 : List Int) (s0_1 : Int) (s0_2 : Bool) (r1 : Int) (r2 : Int) (r3 : Bool) (w0 w : World) (hI : IsS61 w0 w g s0_0 s0_1 s0_2) (hB : Below w0.heap.size w0 w) (h : dryrotref11_in_takeXor.f k s0_0 s0_1 s0_2 = some (r1, r2, r3)) :
    Calls Tryd.prog 33 #[.pointer (some ⟨g, 0, none⟩)] w fun e w' => e = .returned (.int .u64 r1) ∧ IsS61 w0 w' g s0_0 r2 r3 ∧ Below w0.heap.size w0 w' ∧ KeepBut w w' g none := by
  have HI0 := Aside0.mk hI
  have HK := Aside0.mk (KeepBut.refl w g none)
  have HL := Aside0.mk hB.size
  clear hI
  have HW0 := Aside0.mk hB.size
  have HB := Aside0.mk hB
  clear hB
  have H : ((dryrotref11_in_take.f k s0_0 s0_1 s0_2 1).bind fun bt209 => (if bt209.1 = 0 then (some (0, bt209.2.1, bt209.2.2)) else ((dryrotref11_in_take.f k s0_0 bt209.2.1 bt209.2.2 6).bind fun bt212 => ((dryrotref11_in_take.f k s0_0 bt212.2.1 bt212.2.2 6).bind fun bt215 => ((dryrotref11_in_take.f k s0_0 bt215.2.1 bt215.2.2 (wrap64 ((wrap64 (bt215.1)) + 1))).bind fun bt218 => (if (wrap64 ((wrap64 (bt212.1)) + (wrap64 ((wrap64 (bt215.1)) + 1)))) > 64 then (some (0, bt218.2.1, true)) else (if 0 ≤ (wrap64 ((wrap64 (64 - (wrap64 (bt212.1)))) - (wrap64 ((wrap64 (bt215.1)) + 1)))) then (some (shl .u64 bt218.1 (wrap64 ((wrap64 (64 - (wrap64 (bt212.1)))) - (wrap64 ((wrap64 (bt215.1)) + 1)))), bt218.2.1, bt218.2.2)) else (none)))))))) = some (r1, r2, r3) := h
  clear h
  replace H := Option.bind_eq_some_iff.mp H
  obtain ⟨⟨t209, t210, t211⟩, A20, H⟩ := H
  replace H : (if t209 = 0 then (some (0, t210, t211)) else ((dryrotref11_in_take.f k s0_0 t210 t211 6).bind fun bt212 => ((dryrotref11_in_take.f k s0_0 bt212.2.1 bt212.2.2 6).bind fun bt215 => ((dryrotref11_in_take.f k s0_0 bt215.2.1 bt215.2.2 (wrap64 ((wrap64 (bt215.1)) + 1))).bind fun bt218 => (if (wrap64 ((wrap64 (bt212.1)) + (wrap64 ((wrap64 (bt215.1)) + 1)))) > 64 then (some (0, bt218.2.1, true)) else (if 0 ≤ (wrap64 ((wrap64 (64 - (wrap64 (bt212.1)))) - (wrap64 ((wrap64 (bt215.1)) + 1)))) then (some (shl .u64 bt218.1 (wrap64 ((wrap64 (64 - (wrap64 (bt212.1)))) - (wrap64 ((wrap64 (bt215.1)) + 1)))), bt218.2.1, bt218.2.2)) else (none))))))) = some (r1, r2, r3) := H
  have A2 := Aside0.mk A20
  clear A20
  by_cases c3 : t209 = 0
  · rw [if_pos c3] at H
    have c3b0 : (t209 == 0) = true := beq_iff_eq.mpr c3
    have c3b1 : (t209 != 0) = false := bne_eq_false_iff_eq.mpr c3
    clear c3
    simp only [Option.some.injEq, Prod.mk.injEq] at H
    obtain ⟨rfl, rfl, rfl⟩ := H
    go_enter Tryd.func33, Tryd.ntmps33
    go_wp2_with (first | ((with_reducible refine gate_callee (f := 31) rfl ?_); refine goesL_ (some 7) rfl rfl Tryd.func31 (by kernel_rfl) rfl #[.pointer (some ⟨g, 0, none⟩), .int .i64 1] rfl (by (try simp only [List.map_toArray, List.map_cons, List.map_nil]); first | done | rfl | (simp only [List.length_drop, List.length_take]; rfl)) ?_; (with_reducible refine (dryrotref11_in_take.calls k g s0_0 s0_1 s0_2 1 t209 t210 t211 w0 _ ?side1 ?side2 A2.out).mono ?_); (case side1 => repeat (first | (with_reducible first | exact HI0.out | apply IsS61.alloc | apply IsS61.drewN | apply IsS61.drew | apply IsS61.set_1 | apply IsS61.set_2) | exact HI0.out)); (case side2 => repeat (first | (with_reducible first | exact HB.out | apply below_alloc | apply pw_below_drewN | apply below_drew1 | refine below_set ?_ (IsS61.ge HI0.out)) | exact HB.out)); rintro e w4 ⟨rfl, hi, hb, hk⟩; refine ⟨_, rfl, ?_⟩; have n0_ := Aside0.mk (KeepBut.trans (by repeat (first | (with_reducible first | exact HK.out | apply KeepBut.set_ | apply keep_drewN | apply keep_drew | apply keep_alloc) | exact HK.out)) hk (.inl rfl)); have n1_ := Aside0.mk (hb); have n2_ := Aside0.mk (hi); clear HK; clear HB; clear HI0; have HK := n0_; have HB := n1_; have HI0 := n2_; clear n0_ n1_ n2_; (try clear hb); (try clear hb2); (try clear hk); (try clear hi)))
    go_ret
    exact ⟨by first | rfl | (simp [errW_none, errW_some] <;> rfl) | (simp [*, errW_none, errW_some] <;> rfl), by repeat (first | (with_reducible first | exact HI0.out | apply IsS61.alloc | apply IsS61.drewN | apply IsS61.drew | apply IsS61.set_1 | apply IsS61.set_2) | exact HI0.out), by repeat (first | (with_reducible first | exact HB.out | apply below_alloc | apply pw_below_drewN | apply below_drew1 | refine below_set ?_ (IsS61.ge HI0.out)) | exact HB.out), by repeat (first | (with_reducible first | exact HK.out | apply KeepBut.set_ | apply keep_drewN | apply keep_drew | apply keep_alloc) | exact HK.out)⟩
  · rw [if_neg c3] at H
    have c3b0 : (t209 == 0) = false := beq_eq_false_iff_ne.mpr c3
    have c3b1 : (t209 != 0) = true := bne_iff_ne.mpr c3
    replace H := Option.bind_eq_some_iff.mp H
    obtain ⟨⟨t212, t213, t214⟩, A50, H⟩ := H
    replace H : ((dryrotref11_in_take.f k s0_0 t213 t214 6).bind fun bt215 => ((dryrotref11_in_take.f k s0_0 bt215.2.1 bt215.2.2 (wrap64 ((wrap64 (bt215.1)) + 1))).bind fun bt218 => (if (wrap64 ((wrap64 (t212)) + (wrap64 ((wrap64 (bt215.1)) + 1)))) > 64 then (some (0, bt218.2.1, true)) else (if 0 ≤ (wrap64 ((wrap64 (64 - (wrap64 (t212)))) - (wrap64 ((wrap64 (bt215.1)) + 1)))) then (some (shl .u64 bt218.1 (wrap64 ((wrap64 (64 - (wrap64 (t212)))) - (wrap64 ((wrap64 (bt215.1)) + 1)))), bt218.2.1, bt218.2.2)) else (none))))) = some (r1, r2, r3) := H
    have A5 := Aside0.mk A50
    clear A50
    replace H := Option.bind_eq_some_iff.mp H
    obtain ⟨⟨t215, t216, t217⟩, A60, H⟩ := H
    replace H : ((dryrotref11_in_take.f k s0_0 t216 t217 (wrap64 ((wrap64 (t215)) + 1))).bind fun bt218 => (if (wrap64 ((wrap64 (t212)) + (wrap64 ((wrap64 (t215)) + 1)))) > 64 then (some (0, bt218.2.1, true)) else (if 0 ≤ (wrap64 ((wrap64 (64 - (wrap64 (t212)))) - (wrap64 ((wrap64 (t215)) + 1)))) then (some (shl .u64 bt218.1 (wrap64 ((wrap64 (64 - (wrap64 (t212)))) - (wrap64 ((wrap64 (t215)) + 1)))), bt218.2.1, bt218.2.2)) else (none)))) = some (r1, r2, r3) := H
    have A6 := Aside0.mk A60
    clear A60
    replace H := Option.bind_eq_some_iff.mp H
    obtain ⟨⟨t218, t219, t220⟩, A70, H⟩ := H
    replace H : (if (wrap64 ((wrap64 (t212)) + (wrap64 ((wrap64 (t215)) + 1)))) > 64 then (some (0, t219, true)) else (if 0 ≤ (wrap64 ((wrap64 (64 - (wrap64 (t212)))) - (wrap64 ((wrap64 (t215)) + 1)))) then (some (shl .u64 t218 (wrap64 ((wrap64 (64 - (wrap64 (t212)))) - (wrap64 ((wrap64 (t215)) + 1)))), t219, t220)) else (none))) = some (r1, r2, r3) := H
    have A7 := Aside0.mk A70
    clear A70
    by_cases c8 : (wrap64 ((wrap64 (t212)) + (wrap64 ((wrap64 (t215)) + 1)))) > 64
    · rw [if_pos c8] at H
      have c8b0 : decide (64 < (wrap64 ((wrap64 (t212)) + (wrap64 ((wrap64 (t215)) + 1))))) = true := decide_eq_true c8
      clear c8
      simp only [Option.some.injEq, Prod.mk.injEq] at H
      obtain ⟨rfl, rfl, rfl⟩ := H
      go_enter Tryd.func33, Tryd.ntmps33
      go_wp2_with (first | ((with_reducible refine gate_callee (f := 31) rfl ?_); refine goesL_ (some 7) rfl rfl Tryd.func31 (by kernel_rfl) rfl #[.pointer (some ⟨g, 0, none⟩), .int .i64 1] rfl (by (try simp only [List.map_toArray, List.map_cons, List.map_nil]); first | done | rfl | (simp only [List.length_drop, List.length_take]; rfl)) ?_; (with_reducible refine (dryrotref11_in_take.calls k g s0_0 s0_1 s0_2 1 t209 t210 t211 w0 _ ?side1 ?side2 A2.out).mono ?_); (case side1 => repeat (first | (with_reducible first | exact HI0.out | apply IsS61.alloc | apply IsS61.drewN | apply IsS61.drew | apply IsS61.set_1 | apply IsS61.set_2) | exact HI0.out)); (case side2 => repeat (first | (with_reducible first | exact HB.out | apply below_alloc | apply pw_below_drewN | apply below_drew1 | refine below_set ?_ (IsS61.ge HI0.out)) | exact HB.out)); rintro e w9 ⟨rfl, hi, hb, hk⟩; refine ⟨_, rfl, ?_⟩; have n0_ := Aside0.mk (KeepBut.trans (by repeat (first | (with_reducible first | exact HK.out | apply KeepBut.set_ | apply keep_drewN | apply keep_drew | apply keep_alloc) | exact HK.out)) hk (.inl rfl)); have n1_ := Aside0.mk (hb); have n2_ := Aside0.mk (hi); clear HK; clear HB; clear HI0; have HK := n0_; have HB := n1_; have HI0 := n2_; clear n0_ n1_ n2_; (try clear hb); (try clear hb2); (try clear hk); (try clear hi)) | ((with_reducible refine gate_callee (f := 31) rfl ?_); refine goesL_ (some 10) rfl rfl Tryd.func31 (by kernel_rfl) rfl #[.pointer (some ⟨g, 0, none⟩), .int .i64 6] rfl (by (try simp only [List.map_toArray, List.map_cons, List.map_nil]); first | done | rfl | (simp only [List.length_drop, List.length_take]; rfl)) ?_; (with_reducible refine (dryrotref11_in_take.calls k g s0_0 t210 t211 6 t212 t213 t214 w0 _ ?side1 ?side2 A5.out).mono ?_); (case side1 => repeat (first | (with_reducible first | exact HI0.out | apply IsS61.alloc | apply IsS61.drewN | apply IsS61.drew | apply IsS61.set_1 | apply IsS61.set_2) | exact HI0.out)); (case side2 => repeat (first | (with_reducible first | exact HB.out | apply below_alloc | apply pw_below_drewN | apply below_drew1 | refine below_set ?_ (IsS61.ge HI0.out)) | exact HB.out)); rintro e w10 ⟨rfl, hi, hb, hk⟩; refine ⟨_, rfl, ?_⟩; have n0_ := Aside0.mk (KeepBut.trans (by repeat (first | (with_reducible first | exact HK.out | apply KeepBut.set_ | apply keep_drewN | apply keep_drew | apply keep_alloc) | exact HK.out)) hk (.inl rfl)); have n1_ := Aside0.mk (hb); have n2_ := Aside0.mk (hi); clear HK; clear HB; clear HI0; have HK := n0_; have HB := n1_; have HI0 := n2_; clear n0_ n1_ n2_; (try clear hb); (try clear hb2); (try clear hk); (try clear hi)) | ((with_reducible refine gate_callee (f := 31) rfl ?_); refine goesL_ (some 13) rfl rfl Tryd.func31 (by kernel_rfl) rfl #[.pointer (some ⟨g, 0, none⟩), .int .i64 6] rfl (by (try simp only [List.map_toArray, List.map_cons, List.map_nil]); first | done | rfl | (simp only [List.length_drop, List.length_take]; rfl)) ?_; (with_reducible refine (dryrotref11_in_take.calls k g s0_0 t213 t214 6 t215 t216 t217 w0 _ ?side1 ?side2 A6.out).mono ?_); (case side1 => repeat (first | (with_reducible first | exact HI0.out | apply IsS61.alloc | apply IsS61.drewN | apply IsS61.drew | apply IsS61.set_1 | apply IsS61.set_2) | exact HI0.out)); (case side2 => repeat (first | (with_reducible first | exact HB.out | apply below_alloc | apply pw_below_drewN | apply below_drew1 | refine below_set ?_ (IsS61.ge HI0.out)) | exact HB.out)); rintro e w11 ⟨rfl, hi, hb, hk⟩; refine ⟨_, rfl, ?_⟩; have n0_ := Aside0.mk (KeepBut.trans (by repeat (first | (with_reducible first | exact HK.out | apply KeepBut.set_ | apply keep_drewN | apply keep_drew | apply keep_alloc) | exact HK.out)) hk (.inl rfl)); have n1_ := Aside0.mk (hb); have n2_ := Aside0.mk (hi); clear HK; clear HB; clear HI0; have HK := n0_; have HB := n1_; have HI0 := n2_; clear n0_ n1_ n2_; (try clear hb); (try clear hb2); (try clear hk); (try clear hi)) | ((with_reducible refine gate_callee (f := 31) rfl ?_); refine goesL_ (some 18) rfl rfl Tryd.func31 (by kernel_rfl) rfl #[.pointer (some ⟨g, 0, none⟩), .int .i64 (wrap64 ((wrap64 (t215)) + 1))] rfl (by (try simp only [List.map_toArray, List.map_cons, List.map_nil]); first | done | rfl | (simp only [List.length_drop, List.length_take]; rfl)) ?_; (with_reducible refine (dryrotref11_in_take.calls k g s0_0 t216 t217 (wrap64 ((wrap64 (t215)) + 1)) t218 t219 t220 w0 _ ?side1 ?side2 A7.out).mono ?_); (case side1 => repeat (first | (with_reducible first | exact HI0.out | apply IsS61.alloc | apply IsS61.drewN | apply IsS61.drew | apply IsS61.set_1 | apply IsS61.set_2) | exact HI0.out)); (case side2 => repeat (first | (with_reducible first | exact HB.out | apply below_alloc | apply pw_below_drewN | apply below_drew1 | refine below_set ?_ (IsS61.ge HI0.out)) | exact HB.out)); rintro e w12 ⟨rfl, hi, hb, hk⟩; refine ⟨_, rfl, ?_⟩; have n0_ := Aside0.mk (KeepBut.trans (by repeat (first | (with_reducible first | exact HK.out | apply KeepBut.set_ | apply keep_drewN | apply keep_drew | apply keep_alloc) | exact HK.out)) hk (.inl rfl)); have n1_ := Aside0.mk (hb); have n2_ := Aside0.mk (hi); clear HK; clear HB; clear HI0; have HK := n0_; have HB := n1_; have HI0 := n2_; clear n0_ n1_ n2_; (try clear hb); (try clear hb2); (try clear hk); (try clear hi); obtain ⟨ASz13_0, cSz13_0, HGz13, hgz13, HSz13_0⟩ := HI0.out; have hcz13_0 := cellS61_0 HGz13; have hcz13_1 := cellS61_1 HGz13; have hcz13_2 := cellS61_2 HGz13; have hfz13_1 := blk_frozen HGz13 1; have hfz13_2 := blk_frozen HGz13 2; clear HGz13 hgz13))
      go_ret
      exact ⟨by first | rfl | (simp [errW_none, errW_some] <;> rfl) | (simp [*, errW_none, errW_some] <;> rfl), by repeat (first | (with_reducible first | exact HI0.out | apply IsS61.alloc | apply IsS61.drewN | apply IsS61.drew | apply IsS61.set_1 | apply IsS61.set_2) | exact HI0.out), by repeat (first | (with_reducible first | exact HB.out | apply below_alloc | apply pw_below_drewN | apply below_drew1 | refine below_set ?_ (IsS61.ge HI0.out)) | exact HB.out), by repeat (first | (with_reducible first | exact HK.out | apply KeepBut.set_ | apply keep_drewN | apply keep_drew | apply keep_alloc) | exact HK.out)⟩
    · rw [if_neg c8] at H
      have c8b0 : decide (64 < (wrap64 ((wrap64 (t212)) + (wrap64 ((wrap64 (t215)) + 1))))) = false := decide_eq_false c8
      clear c8
      obtain ⟨ji14, hji14⟩ : ∃ j_ : Int, (wrap64 ((wrap64 (64 - (wrap64 (t212)))) - (wrap64 ((wrap64 (t215)) + 1)))) = j_ := ⟨_, rfl⟩
      replace H : (if 0 ≤ (ji14) then (some (shl .u64 t218 (ji14), t219, t220)) else (none)) = some (r1, r2, r3) := by first | (rw [hji14] at H; exact H) | (simp only [hji14] at H ⊢; exact H)
      (try rw [hji14] at A2)
      (try rw [hji14] at A5)
      (try rw [hji14] at A6)
      (try rw [hji14] at A7)
      have hji14w : (IntKind.i64.wrap ((wrap64 (64 - (wrap64 (t212)))) - (wrap64 ((wrap64 (t215)) + 1)))) = ji14 := (i64_w _).trans hji14
      by_cases c15 : 0 ≤ (ji14)
      · rw [if_pos c15] at H
        have c15b0 := eq_true c15
        have c15b1 : decide (0 ≤ (ji14)) = true := decide_eq_true c15
        clear c15
        obtain ⟨ji16, hji16⟩ : ∃ j_ : Int, (shl .u64 t218 (ji14)) = j_ := ⟨_, rfl⟩
        replace H : (some (ji16, t219, t220)) = some (r1, r2, r3) := by first | (rw [hji16] at H; exact H) | (simp only [hji16] at H ⊢; exact H)
        (try rw [hji16] at A2)
        (try rw [hji16] at A5)
        (try rw [hji16] at A6)
        (try rw [hji16] at A7)
        have hji16_ : (IntKind.u64.wrap (t218 * 2 ^ min (ji14).toNat 64)) = ji16 := hji16
        have hji16z : (ji14) ≤ 64 → (IntKind.u64.wrap (t218 * 2 ^ (ji14).toNat)) = ji16 := shl_small hji16
        simp only [Option.some.injEq, Prod.mk.injEq] at H
        obtain ⟨rfl, rfl, rfl⟩ := H
        go_enter Tryd.func33, Tryd.ntmps33
        go_wp2_with (first | ((with_reducible refine gate_callee (f := 31) rfl ?_); refine goesL_ (some 7) rfl rfl Tryd.func31 (by kernel_rfl) rfl #[.pointer (some ⟨g, 0, none⟩), .int .i64 1] rfl (by (try simp only [List.map_toArray, List.map_cons, List.map_nil]); first | done | rfl | (simp only [List.length_drop, List.length_take]; rfl)) ?_; (with_reducible refine (dryrotref11_in_take.calls k g s0_0 s0_1 s0_2 1 t209 t210 t211 w0 _ ?side1 ?side2 A2.out).mono ?_); (case side1 => repeat (first | (with_reducible first | exact HI0.out | apply IsS61.alloc | apply IsS61.drewN | apply IsS61.drew | apply IsS61.set_1 | apply IsS61.set_2) | exact HI0.out)); (case side2 => repeat (first | (with_reducible first | exact HB.out | apply below_alloc | apply pw_below_drewN | apply below_drew1 | refine below_set ?_ (IsS61.ge HI0.out)) | exact HB.out)); rintro e w17 ⟨rfl, hi, hb, hk⟩; refine ⟨_, rfl, ?_⟩; have n0_ := Aside0.mk (KeepBut.trans (by repeat (first | (with_reducible first | exact HK.out | apply KeepBut.set_ | apply keep_drewN | apply keep_drew | apply keep_alloc) | exact HK.out)) hk (.inl rfl)); have n1_ := Aside0.mk (hb); have n2_ := Aside0.mk (hi); clear HK; clear HB; clear HI0; have HK := n0_; have HB := n1_; have HI0 := n2_; clear n0_ n1_ n2_; (try clear hb); (try clear hb2); (try clear hk); (try clear hi)) | ((with_reducible refine gate_callee (f := 31) rfl ?_); refine goesL_ (some 10) rfl rfl Tryd.func31 (by kernel_rfl) rfl #[.pointer (some ⟨g, 0, none⟩), .int .i64 6] rfl (by (try simp only [List.map_toArray, List.map_cons, List.map_nil]); first | done | rfl | (simp only [List.length_drop, List.length_take]; rfl)) ?_; (with_reducible refine (dryrotref11_in_take.calls k g s0_0 t210 t211 6 t212 t213 t214 w0 _ ?side1 ?side2 A5.out).mono ?_); (case side1 => repeat (first | (with_reducible first | exact HI0.out | apply IsS61.alloc | apply IsS61.drewN | apply IsS61.drew | apply IsS61.set_1 | apply IsS61.set_2) | exact HI0.out)); (case side2 => repeat (first | (with_reducible first | exact HB.out | apply below_alloc | apply pw_below_drewN | apply below_drew1 | refine below_set ?_ (IsS61.ge HI0.out)) | exact HB.out)); rintro e w18 ⟨rfl, hi, hb, hk⟩; refine ⟨_, rfl, ?_⟩; have n0_ := Aside0.mk (KeepBut.trans (by repeat (first | (with_reducible first | exact HK.out | apply KeepBut.set_ | apply keep_drewN | apply keep_drew | apply keep_alloc) | exact HK.out)) hk (.inl rfl)); have n1_ := Aside0.mk (hb); have n2_ := Aside0.mk (hi); clear HK; clear HB; clear HI0; have HK := n0_; have HB := n1_; have HI0 := n2_; clear n0_ n1_ n2_; (try clear hb); (try clear hb2); (try clear hk); (try clear hi)) | ((with_reducible refine gate_callee (f := 31) rfl ?_); refine goesL_ (some 13) rfl rfl Tryd.func31 (by kernel_rfl) rfl #[.pointer (some ⟨g, 0, none⟩), .int .i64 6] rfl (by (try simp only [List.map_toArray, List.map_cons, List.map_nil]); first | done | rfl | (simp only [List.length_drop, List.length_take]; rfl)) ?_; (with_reducible refine (dryrotref11_in_take.calls k g s0_0 t213 t214 6 t215 t216 t217 w0 _ ?side1 ?side2 A6.out).mono ?_); (case side1 => repeat (first | (with_reducible first | exact HI0.out | apply IsS61.alloc | apply IsS61.drewN | apply IsS61.drew | apply IsS61.set_1 | apply IsS61.set_2) | exact HI0.out)); (case side2 => repeat (first | (with_reducible first | exact HB.out | apply below_alloc | apply pw_below_drewN | apply below_drew1 | refine below_set ?_ (IsS61.ge HI0.out)) | exact HB.out)); rintro e w19 ⟨rfl, hi, hb, hk⟩; refine ⟨_, rfl, ?_⟩; have n0_ := Aside0.mk (KeepBut.trans (by repeat (first | (with_reducible first | exact HK.out | apply KeepBut.set_ | apply keep_drewN | apply keep_drew | apply keep_alloc) | exact HK.out)) hk (.inl rfl)); have n1_ := Aside0.mk (hb); have n2_ := Aside0.mk (hi); clear HK; clear HB; clear HI0; have HK := n0_; have HB := n1_; have HI0 := n2_; clear n0_ n1_ n2_; (try clear hb); (try clear hb2); (try clear hk); (try clear hi)) | ((with_reducible refine gate_callee (f := 31) rfl ?_); refine goesL_ (some 18) rfl rfl Tryd.func31 (by kernel_rfl) rfl #[.pointer (some ⟨g, 0, none⟩), .int .i64 (wrap64 ((wrap64 (t215)) + 1))] rfl (by (try simp only [List.map_toArray, List.map_cons, List.map_nil]); first | done | rfl | (simp only [List.length_drop, List.length_take]; rfl)) ?_; (with_reducible refine (dryrotref11_in_take.calls k g s0_0 t216 t217 (wrap64 ((wrap64 (t215)) + 1)) t218 t219 t220 w0 _ ?side1 ?side2 A7.out).mono ?_); (case side1 => repeat (first | (with_reducible first | exact HI0.out | apply IsS61.alloc | apply IsS61.drewN | apply IsS61.drew | apply IsS61.set_1 | apply IsS61.set_2) | exact HI0.out)); (case side2 => repeat (first | (with_reducible first | exact HB.out | apply below_alloc | apply pw_below_drewN | apply below_drew1 | refine below_set ?_ (IsS61.ge HI0.out)) | exact HB.out)); rintro e w20 ⟨rfl, hi, hb, hk⟩; refine ⟨_, rfl, ?_⟩; have n0_ := Aside0.mk (KeepBut.trans (by repeat (first | (with_reducible first | exact HK.out | apply KeepBut.set_ | apply keep_drewN | apply keep_drew | apply keep_alloc) | exact HK.out)) hk (.inl rfl)); have n1_ := Aside0.mk (hb); have n2_ := Aside0.mk (hi); clear HK; clear HB; clear HI0; have HK := n0_; have HB := n1_; have HI0 := n2_; clear n0_ n1_ n2_; (try clear hb); (try clear hb2); (try clear hk); (try clear hi)))
        go_ret
        exact ⟨by first | rfl | (simp [errW_none, errW_some] <;> rfl) | (simp only [← hji14, ← hji16]; first | rfl | (simp [errW_none, errW_some] <;> rfl)) | (simp [*, errW_none, errW_some] <;> rfl), by repeat (first | (with_reducible first | exact HI0.out | apply IsS61.alloc | apply IsS61.drewN | apply IsS61.drew | apply IsS61.set_1 | apply IsS61.set_2) | exact HI0.out), by repeat (first | (with_reducible first | exact HB.out | apply below_alloc | apply pw_below_drewN | apply below_drew1 | refine below_set ?_ (IsS61.ge HI0.out)) | exact HB.out), by repeat (first | (with_reducible first | exact HK.out | apply KeepBut.set_ | apply keep_drewN | apply keep_drew | apply keep_alloc) | exact HK.out)⟩
      · rw [if_neg c15] at H
        exact absurd H (by simp)

end Go.Proofs.YtpeekkpdglfbbaaDoor.PA
namespace Go.Proofs.YtpeekkpdglfbbaaDoor.PA
open Go.RowKit Go.Proofs.YtpeekkpdglfbbaaDoor.G Go.Proofs.YtpeekkpdglfbbaaDoorW.PrintWords Go.Proofs.YtpeekkpdglfbbaaDoorW.PrintLast Go.Proofs.YtpeekkpdglfbbaaDoorW.PrintMore
set_option linter.unusedVariables false
set_option linter.unusedSimpArgs false

def rT (xb : List Int) (p : Nat) (bad : Bool) (c : Nat) : Nat × Nat × Bool := if p + c ≤ 8 * xb.length then (num (win xb p c), p + c, bad) else (0, 8 * xb.length, true)
theorem bit_val {xb : List Int} (hx : OkL xb) (p : Nat) : IntKind.u64.wrap (Go.bits .and .u8 (shr .u8 (rd xb ((p / 8 : Nat) : Int)) ((7 - p % 8 : Nat) : Int)) 1) = (((bit xb p).toNat : Nat) : Int) := by
  have ha := hx.at (p / 8)
  rw [rd_nat]
  unfold bit
  obtain ⟨a, hA⟩ := Int.eq_ofNat_of_zero_le ha.1
  rw [hA] at ha ⊢
  have ha2 : a < 256 := by omega
  rw [Int.toNat_natCast, shr_nat .u8 a (7 - p % 8) (by simp [IntKind.bits]; omega), show (1 : Int) = ((1 : Nat) : Int) from rfl, u8_and_nat _ 1 (Nat.lt_of_le_of_lt (Nat.div_le_self _ _) ha2) (by omega), Nat.and_one_is_mod]
  rw [u64wrap (by have := Nat.mod_lt (a / 2 ^ (7 - p % 8)) (show 0 < 2 by decide); omega), Nat.testBit_eq_decide_div_mod_eq]
  rcases Nat.mod_two_eq_zero_or_one (a / 2 ^ (7 - p % 8)) with h | h <;> rw [h] <;> rfl
theorem win_snoc (l : List Int) (p i : Nat) : win l p (i + 1) = win l p i ++ [bit l (p + i)] := by
  unfold win
  rw [List.range_succ, List.map_append]
  rfl
theorem num_snoc (l : List Int) (p i : Nat) : num (win l p (i + 1)) = 2 * num (win l p i) + (bit l (p + i)).toNat := by
  rw [win_snoc, num_append]
  show num (win l p i) * 2 ^ 1 + num [bit l (p + i)] = _
  rw [show num [bit l (p + i)] = (bit l (p + i)).toNat by cases bit l (p + i) <;> rfl]
  omega
theorem w_td {q : Nat} (h : q ≤ 10000000) : wrap64 (Int.tdiv (q : Int) 8) = ((q / 8 : Nat) : Int) := by rw [td8]; exact w64n (by omega)
theorem w_tm {q : Nat} (h : q ≤ 10000000) : wrap64 (7 - Int.tmod (q : Int) 8) = ((7 - q % 8 : Nat) : Int) := by rw [tm8, w64 (by omega) (by omega)]; omega
theorem w_s1 {q : Nat} (h : q ≤ 10000000) : wrap64 ((q : Int) + 1) = ((q + 1 : Nat) : Int) := by rw [w64 (by omega) (by omega)]; omega
theorem w_8 {q : Nat} (h : q ≤ 10000000) : wrap64 (8 * (q : Int)) = ((8 * q : Nat) : Int) := by rw [w64 (by omega) (by omega)]; omega
theorem acc_step (xb : List Int) (p i : Nat) (hi : i < 64) : IntKind.u64.wrap (IntKind.u64.wrap (((num (win xb p i) : Nat) : Int) * 2) + (((bit xb (p + i)).toNat : Nat) : Int)) = ((num (win xb p (i + 1)) : Nat) : Int) := by
  have hlt := num_lt (win xb p i)
  rw [win_length] at hlt
  have h2 : 2 ^ (i + 1) ≤ 2 ^ 64 := Nat.pow_le_pow_right (by decide) (by omega)
  rw [Nat.pow_succ] at h2
  have hb1 : (bit xb (p + i)).toNat ≤ 1 := by cases bit xb (p + i) <;> decide
  rw [num_snoc]
  generalize num (win xb p i) = n at *
  generalize (bit xb (p + i)).toNat = b at *
  have h3 : n * 2 < 18446744073709551616 := by omega
  clear hlt h2
  rw [show ((n : Int) * 2) = ((n * 2 : Nat) : Int) by omega, u64wrap h3, show (((n * 2 : Nat) : Int) + (b : Int)) = ((2 * n + b : Nat) : Int) by omega]
  exact u64wrap (by omega)
theorem take_one {xb : List Int} (hx : OkL xb) (hlen : xb.length ≤ 100000) (p0 : Nat) (bad : Bool) (c i k : Nat) (hi : i < c) (hc : c ≤ 64) (hq : p0 + i < 8 * xb.length) :
    dryrotref11_in_take.l0 (k + 1) ((num (win xb p0 i) : Nat) : Int) (c : Int) (i : Int) xb ((p0 + i : Nat) : Int) bad = dryrotref11_in_take.l0 k ((num (win xb p0 (i + 1)) : Nat) : Int) (c : Int) ((i + 1 : Nat) : Int) xb ((p0 + (i + 1) : Nat) : Int) bad := by
  rw [dryrotref11_in_take.l0]
  rw [if_pos (by omega), w_8 (by omega), if_neg (by omega), w_td (by omega), w_tm (by omega), if_pos (by omega), if_pos (by omega), if_pos (by omega), bit_val hx, acc_step xb p0 i (by omega), w_s1 (by omega), w_s1 (by omega), Nat.add_assoc]
theorem take_go {xb : List Int} (hx : OkL xb) (hlen : xb.length ≤ 100000) (p0 : Nat) (bad : Bool) (c : Nat) (hc : c ≤ 64) : ∀ d i, i + d = c → p0 + i ≤ 8 * xb.length → ∀ k, d < k →
    dryrotref11_in_take.l0 k ((num (win xb p0 i) : Nat) : Int) (c : Int) (i : Int) xb ((p0 + i : Nat) : Int) bad = some (((rT xb p0 bad c).1 : Int), ((rT xb p0 bad c).2.1 : Int), (rT xb p0 bad c).2.2)
  | 0, i, h, hp, k + 1, hk => by
    rw [dryrotref11_in_take.l0]
    obtain rfl : i = c := by omega
    rw [if_neg (by omega), rT, if_pos hp]
  | d + 1, i, h, hp, k + 1, hk => by
    by_cases hq : p0 + i < 8 * xb.length
    · rw [take_one hx hlen p0 bad c i k (by omega) hc hq]
      exact take_go hx hlen p0 bad c hc d (i + 1) (by omega) (by omega) k (by omega)
    · rw [dryrotref11_in_take.l0]
      rw [if_pos (by omega), w_8 (by omega), if_pos (by omega), rT, if_neg (by omega), show p0 + i = 8 * xb.length by omega]
      rfl
theorem take_r {xb : List Int} (hx : OkL xb) (hlen : xb.length ≤ 100000) (p : Nat) (bad : Bool) (c : Nat) (hc : c ≤ 64) (hp : p ≤ 8 * xb.length) (k : Nat) (hk : c < k) :
    dryrotref11_in_take.f k xb (p : Int) bad (c : Int) = some (((rT xb p bad c).1 : Int), ((rT xb p bad c).2.1 : Int), (rT xb p bad c).2.2) := by
  unfold dryrotref11_in_take.f
  exact take_go hx hlen p bad c hc c 0 (by omega) (by omega) k hk
theorem rT_place (xb : List Int) (p : Nat) (bad : Bool) (c : Nat) (hp : p ≤ 8 * xb.length) : p ≤ (rT xb p bad c).2.1 ∧ (rT xb p bad c).2.1 ≤ 8 * xb.length ∧ ((rT xb p bad c).2.2 = false → bad = false ∧ (rT xb p bad c).2.1 = p + c) ∧ (rT xb p bad c).1 < 2 ^ c := by
  unfold rT
  split
  · refine ⟨Nat.le_add_right _ _, by assumption, fun h => ⟨h, rfl⟩, ?_⟩
    have := num_lt (win xb p c)
    rwa [win_length] at this
  · exact ⟨hp, Nat.le_refl _, fun h => by simp at h, Nat.two_pow_pos _⟩
/-! ### a number -/
def rTail (xb : List Int) (p : Nat) (bad : Bool) (K : Int) : Int × Nat × Bool := (sgn (rT xb p bad (widthN K).toNat).1 (widthN K).toNat, (rT xb p bad (widthN K).toNat).2)
def rHead (xb : List Int) : Nat → Nat → Bool → Int × Nat × Bool
  | 0, p, bad => rTail xb p bad 4
  | m + 1, p, bad => if (rT xb p bad 1).1 = 1 then rHead xb m (rT xb p bad 1).2.1 (rT xb p bad 1).2.2 else rTail xb (rT xb p bad 1).2.1 (rT xb p bad 1).2.2 (3 - (m : Int))
theorem sgn_step {n w : Nat} (P : Int) (b : Bool) (hw : w = 0 ∨ w = 7 ∨ w = 12 ∨ w = 32 ∨ w = 64) (hn : n < 2 ^ w) :
    (if (w : Int) > 0 then (if (w : Int) < 64 then (if 0 ≤ wrap64 ((w : Int) - 1) then (if wrap64 (n : Int) ≥ shl .i64 1 (wrap64 ((w : Int) - 1)) then (if 0 ≤ (w : Int) then some (wrap64 (wrap64 (n : Int) - shl .i64 1 (w : Int)), P, b) else none) else some (wrap64 (n : Int), P, b)) else none) else some (wrap64 (n : Int), P, b)) else some (wrap64 (n : Int), P, b)) = some (sgn n w, P, b) := by
  have hsm : w = 0 ∨ w = 7 ∨ w = 12 ∨ w = 32 ∨ w = 64 := hw
  rcases hw with rfl | rfl | rfl | rfl | rfl
  · have : n = 0 := by omega
    subst this
    rw [if_neg (by decide), show wrap64 ((0 : Nat) : Int) = sgn 0 0 by decide +kernel]
  · rw [if_pos (by decide), if_pos (by decide), if_pos (by decide +kernel), show shl .i64 1 (wrap64 (((7 : Nat) : Int) - 1)) = 64 by decide +kernel, show shl .i64 1 ((7 : Nat) : Int) = 128 by decide +kernel, w64n (by omega)]
    unfold sgn
    by_cases h : 64 ≤ n
    · rw [if_pos (by omega), if_pos (by decide), w64 (by omega) (by omega), if_pos ⟨by decide, by simpa using h⟩]; rfl
    · rw [if_neg (by omega), if_neg (by simp; omega)]
  · rw [if_pos (by decide), if_pos (by decide), if_pos (by decide +kernel), show shl .i64 1 (wrap64 (((12 : Nat) : Int) - 1)) = 2048 by decide +kernel, show shl .i64 1 ((12 : Nat) : Int) = 4096 by decide +kernel, w64n (by omega)]
    unfold sgn
    by_cases h : 2048 ≤ n
    · rw [if_pos (by omega), if_pos (by decide), w64 (by omega) (by omega), if_pos ⟨by decide, by simpa using h⟩]; rfl
    · rw [if_neg (by omega), if_neg (by simp; omega)]
  · rw [if_pos (by decide), if_pos (by decide), if_pos (by decide +kernel), show shl .i64 1 (wrap64 (((32 : Nat) : Int) - 1)) = 2147483648 by decide +kernel, show shl .i64 1 ((32 : Nat) : Int) = 4294967296 by decide +kernel, w64n (by omega)]
    unfold sgn
    by_cases h : 2147483648 ≤ n
    · rw [if_pos (by omega), if_pos (by decide), w64 (by omega) (by omega), if_pos ⟨by decide, by simpa using h⟩]; rfl
    · rw [if_neg (by omega), if_neg (by simp; omega)]
  · rw [if_pos (by decide), if_neg (by decide), sgn_64 (by omega)]
theorem widths5 (K : Int) : (widthN K).toNat = 0 ∨ (widthN K).toNat = 7 ∨ (widthN K).toNat = 12 ∨ (widthN K).toNat = 32 ∨ (widthN K).toNat = 64 := widths K
theorem tint_go {xb : List Int} (hx : OkL xb) (hlen : xb.length ≤ 100000) : ∀ (m : Nat), m ≤ 4 → ∀ (p : Nat) (bad : Bool), p ≤ 8 * xb.length → ∀ k, 70 + m < k →
    dryrotref11_in_takeInt.l0 k (4 - (m : Int)) xb (p : Int) bad = some ((rHead xb m p bad).1, ((rHead xb m p bad).2.1 : Int), (rHead xb m p bad).2.2) := by
  have hw : ∀ K : Int, widthN K = (((widthN K).toNat : Nat) : Int) := fun K => by have := (width_le K).1; omega
  have hw64 : ∀ K : Int, (widthN K).toNat ≤ 64 := fun K => by have := (width_le K).2; omega
  intro m
  induction m with
  | zero =>
    intro _ p bad hp k hk
    obtain ⟨k, rfl⟩ : ∃ k', k = k' + 1 := ⟨k - 1, by omega⟩
    rw [dryrotref11_in_takeInt.l0, show (4 - ((0 : Nat) : Int)) = 4 from rfl]
    rw [if_neg (by decide), Option.bind_some, if_pos (by decide), if_pos (by decide), table5 4 (by decide) (by decide), hw 4, take_r hx hlen p bad _ (hw64 4) hp k (by have := hw64 4; omega), Option.bind_some]
    have h3 := (rT_place xb p bad (widthN 4).toNat hp).2.2.2
    exact sgn_step _ _ (widths5 4) h3
  | succ m ih =>
    intro hm p bad hp k hk
    obtain ⟨k, rfl⟩ : ∃ k', k = k' + 1 := ⟨k - 1, by omega⟩
    rw [dryrotref11_in_takeInt.l0]
    have h1 := rT_place xb p bad 1 hp
    have ht := take_r hx hlen p bad 1 (by decide) hp k (by omega)
    rw [show ((1 : Nat) : Int) = 1 from rfl] at ht
    rw [if_pos (by omega), ht, Option.bind_some]
    simp only
    obtain ⟨⟨t1, p1, b1⟩, e1⟩ : ∃ t, rT xb p bad 1 = t := ⟨_, rfl⟩
    rw [rHead]
    rw [e1] at h1 ⊢
    simp only at h1 ⊢
    by_cases h : t1 = 1
    · rw [if_pos (by omega), if_pos h, show wrap64 (4 - ((m + 1 : Nat) : Int) + 1) = 4 - (m : Int) by rw [w64 (by omega) (by omega)]; omega]
      exact ih (by omega) p1 b1 h1.2.1 k (by omega)
    · rw [if_neg (by omega), if_neg h, Option.bind_some, show 4 - ((m + 1 : Nat) : Int) = 3 - (m : Int) by omega, if_pos (by omega), if_pos (by simp; omega), table5 (3 - (m : Int)) (by omega) (by omega), hw (3 - (m : Int)), take_r hx hlen p1 b1 _ (hw64 _) h1.2.1 k (by have := hw64 (3 - (m : Int)); omega), Option.bind_some]
      have h3 := (rT_place xb p1 b1 (widthN (3 - (m : Int))).toNat h1.2.1).2.2.2
      exact sgn_step _ _ (widths5 _) h3
theorem tint_r {xb : List Int} (hx : OkL xb) (hlen : xb.length ≤ 100000) (p : Nat) (bad : Bool) (hp : p ≤ 8 * xb.length) :
    dryrotref11_in_takeInt.f 100 xb (p : Int) bad = some ((rHead xb 4 p bad).1, ((rHead xb 4 p bad).2.1 : Int), (rHead xb 4 p bad).2.2) := by
  unfold dryrotref11_in_takeInt.f
  exact tint_go hx hlen 4 (by decide) p bad hp 100 (by decide)
theorem rTail_place (xb : List Int) (p : Nat) (bad : Bool) (K : Int) (hp : p ≤ 8 * xb.length) : p ≤ (rTail xb p bad K).2.1 ∧ (rTail xb p bad K).2.1 ≤ 8 * xb.length ∧ ((rTail xb p bad K).2.2 = false → bad = false) := by
  have h := rT_place xb p bad (widthN K).toNat hp
  exact ⟨h.1, h.2.1, fun e => (h.2.2.1 e).1⟩
theorem rHead_place (xb : List Int) : ∀ (m p : Nat) (bad : Bool), p ≤ 8 * xb.length → p ≤ (rHead xb m p bad).2.1 ∧ (rHead xb m p bad).2.1 ≤ 8 * xb.length ∧ ((rHead xb m p bad).2.2 = false → bad = false ∧ p + (if m = 0 then 0 else 1) ≤ (rHead xb m p bad).2.1)
  | 0, p, bad, hp => by
    have h := rTail_place xb p bad 4 hp
    exact ⟨h.1, h.2.1, fun e => ⟨h.2.2 e, h.1⟩⟩
  | m + 1, p, bad, hp => by
    have h1 := rT_place xb p bad 1 hp
    have hz : (if m + 1 = 0 then 0 else 1) = 1 := if_neg (Nat.succ_ne_zero m)
    rw [hz]
    by_cases h : (rT xb p bad 1).1 = 1
    · rw [rHead, if_pos h]
      have h2 := rHead_place xb m (rT xb p bad 1).2.1 (rT xb p bad 1).2.2 h1.2.1
      refine ⟨by omega, h2.2.1, fun e => ?_⟩
      have h3 := h2.2.2 e
      have h4 := h1.2.2.1 h3.1
      exact ⟨h4.1, by omega⟩
    · rw [rHead, if_neg h]
      have h2 := rTail_place xb (rT xb p bad 1).2.1 (rT xb p bad 1).2.2 (3 - (m : Int)) h1.2.1
      refine ⟨by omega, h2.2.1, fun e => ?_⟩
      have h4 := h1.2.2.1 (h2.2.2 e)
      exact ⟨h4.1, by omega⟩
theorem sgn_in (n w : Nat) (hw : w ≤ 64) (hn : n < 2 ^ w) : -9223372036854775808 ≤ sgn n w ∧ sgn n w ≤ 9223372036854775807 := by
  unfold sgn
  split
  · rename_i h
    obtain ⟨w, rfl⟩ : ∃ v, w = v + 1 := ⟨w - 1, by omega⟩
    rw [Nat.add_sub_cancel] at h
    have h2 : 2 ^ w ≤ 2 ^ 63 := Nat.pow_le_pow_right (by decide) (by omega)
    rw [Nat.pow_succ] at hn
    have e : ((2 : Int) ^ (w + 1)) = ((2 ^ w * 2 : Nat) : Int) := by rw [← Nat.pow_succ]; simp
    rw [e]
    generalize 2 ^ w = P at *
    omega
  · rename_i h
    rcases Nat.eq_zero_or_pos w with h0 | h0
    · subst h0
      simp at hn
      subst hn
      decide
    · have h3 : n < 2 ^ (w - 1) := by
        rcases Nat.lt_or_ge n (2 ^ (w - 1)) with q | q
        · exact q
        · exact absurd ⟨h0, q⟩ h
      have h2 : 2 ^ (w - 1) ≤ 2 ^ 63 := Nat.pow_le_pow_right (by decide) (by omega)
      generalize 2 ^ (w - 1) = P at *
      omega
theorem rHead_range (xb : List Int) : ∀ (m p : Nat) (bad : Bool), p ≤ 8 * xb.length → -9223372036854775808 ≤ (rHead xb m p bad).1 ∧ (rHead xb m p bad).1 ≤ 9223372036854775807
  | 0, p, bad, hp => sgn_in _ _ (by have := (width_le 4).2; omega) (rT_place xb p bad (widthN 4).toNat hp).2.2.2
  | m + 1, p, bad, hp => by
    have h1 := rT_place xb p bad 1 hp
    rw [rHead]
    split
    · exact rHead_range xb m _ _ h1.2.1
    · exact sgn_in _ _ (by have := (width_le (3 - (m : Int))).2; omega) (rT_place xb _ _ (widthN (3 - (m : Int))).toNat h1.2.1).2.2.2
/-- what the program's reading finds, the reference's finds -/
theorem rHead_of (xb : List Int) (bad : Bool) {v q : Int} : ∀ (m p : Nat), p ≤ 8 * xb.length → headI xb (8 * xb.length) m p = (v, q, 0) → (rHead xb m p bad).1 = v ∧ ((rHead xb m p bad).2.1 : Int) = q ∧ (rHead xb m p bad).2.2 = bad := by
  have tl : ∀ (K : Int) (p : Nat), tailI xb (8 * xb.length) p K = (v, q, 0) → (rTail xb p bad K).1 = v ∧ ((rTail xb p bad K).2.1 : Int) = q ∧ (rTail xb p bad K).2.2 = bad := by
    intro K p h
    have hw := (width_le K).1
    unfold tailI at h
    split at h
    · simp at h
    · split at h
      · simp only [Prod.mk.injEq, and_true] at h
        unfold rTail rT
        rw [if_pos (by omega)]
        exact ⟨h.1, h.2, rfl⟩
      · simp at h
  intro m
  induction m with
  | zero => intro p hp h; exact tl 4 p h
  | succ m ih =>
    intro p hp h
    rw [headI] at h
    split at h
    · simp at h
    · rename_i hlt
      have e1 : rT xb p bad 1 = ((bit xb p).toNat, p + 1, bad) := by
        unfold rT
        rw [if_pos (by omega), win_one]
        congr 1
        cases bit xb p <;> rfl
      rw [rHead, e1]
      split at h
      · rename_i hb
        rw [if_pos (by rw [hb]; rfl)]
        exact ih (p + 1) (by omega) h
      · rename_i hb
        rw [if_neg (by rw [Bool.not_eq_true] at hb; rw [hb]; simp)]
        exact tl _ (p + 1) h
/-! ### what a value differs by -/
def rX (xb : List Int) (p : Nat) (bad : Bool) : Int × Nat × Bool :=
  if (rT xb p bad 1).1 = 0 then (0, (rT xb p bad 1).2) else
  if 64 < (rT xb (rT xb p bad 1).2.1 (rT xb p bad 1).2.2 6).1 + ((rT xb (rT xb (rT xb p bad 1).2.1 (rT xb p bad 1).2.2 6).2.1 (rT xb (rT xb p bad 1).2.1 (rT xb p bad 1).2.2 6).2.2 6).1 + 1) then
    (0, (rT xb (rT xb (rT xb (rT xb p bad 1).2.1 (rT xb p bad 1).2.2 6).2.1 (rT xb (rT xb p bad 1).2.1 (rT xb p bad 1).2.2 6).2.2 6).2.1 (rT xb (rT xb (rT xb p bad 1).2.1 (rT xb p bad 1).2.2 6).2.1 (rT xb (rT xb p bad 1).2.1 (rT xb p bad 1).2.2 6).2.2 6).2.2 ((rT xb (rT xb (rT xb p bad 1).2.1 (rT xb p bad 1).2.2 6).2.1 (rT xb (rT xb p bad 1).2.1 (rT xb p bad 1).2.2 6).2.2 6).1 + 1)).2.1, true) else
  (shl .u64 (rT xb (rT xb (rT xb (rT xb p bad 1).2.1 (rT xb p bad 1).2.2 6).2.1 (rT xb (rT xb p bad 1).2.1 (rT xb p bad 1).2.2 6).2.2 6).2.1 (rT xb (rT xb (rT xb p bad 1).2.1 (rT xb p bad 1).2.2 6).2.1 (rT xb (rT xb p bad 1).2.1 (rT xb p bad 1).2.2 6).2.2 6).2.2 ((rT xb (rT xb (rT xb p bad 1).2.1 (rT xb p bad 1).2.2 6).2.1 (rT xb (rT xb p bad 1).2.1 (rT xb p bad 1).2.2 6).2.2 6).1 + 1)).1 ((64 - (rT xb (rT xb p bad 1).2.1 (rT xb p bad 1).2.2 6).1 - ((rT xb (rT xb (rT xb p bad 1).2.1 (rT xb p bad 1).2.2 6).2.1 (rT xb (rT xb p bad 1).2.1 (rT xb p bad 1).2.2 6).2.2 6).1 + 1) : Nat) : Int),
    (rT xb (rT xb (rT xb (rT xb p bad 1).2.1 (rT xb p bad 1).2.2 6).2.1 (rT xb (rT xb p bad 1).2.1 (rT xb p bad 1).2.2 6).2.2 6).2.1 (rT xb (rT xb (rT xb p bad 1).2.1 (rT xb p bad 1).2.2 6).2.1 (rT xb (rT xb p bad 1).2.1 (rT xb p bad 1).2.2 6).2.2 6).2.2 ((rT xb (rT xb (rT xb p bad 1).2.1 (rT xb p bad 1).2.2 6).2.1 (rT xb (rT xb p bad 1).2.1 (rT xb p bad 1).2.2 6).2.2 6).1 + 1)).2)
theorem rX_eq {xb : List Int} {p : Nat} {bad : Bool} {n1 p1 n2 p2 n3 p3 n4 p4 : Nat} {b1 b2 b3 b4 : Bool} (h1 : rT xb p bad 1 = (n1, p1, b1)) (h2 : rT xb p1 b1 6 = (n2, p2, b2)) (h3 : rT xb p2 b2 6 = (n3, p3, b3)) (h4 : rT xb p3 b3 (n3 + 1) = (n4, p4, b4)) :
    rX xb p bad = if n1 = 0 then (0, p1, b1) else if 64 < n2 + (n3 + 1) then (0, p4, true) else (shl .u64 (n4 : Int) ((64 - n2 - (n3 + 1) : Nat) : Int), p4, b4) := by
  unfold rX
  simp only [h1, h2, h3, h4]
theorem txor_r {xb : List Int} (hx : OkL xb) (hlen : xb.length ≤ 100000) (p : Nat) (bad : Bool) (hp : p ≤ 8 * xb.length) :
    dryrotref11_in_takeXor.f 100 xb (p : Int) bad = some ((rX xb p bad).1, ((rX xb p bad).2.1 : Int), (rX xb p bad).2.2) := by
  obtain ⟨⟨n1, p1, b1⟩, h1⟩ : ∃ t, rT xb p bad 1 = t := ⟨_, rfl⟩
  obtain ⟨⟨n2, p2, b2⟩, h2⟩ : ∃ t, rT xb p1 b1 6 = t := ⟨_, rfl⟩
  obtain ⟨⟨n3, p3, b3⟩, h3⟩ : ∃ t, rT xb p2 b2 6 = t := ⟨_, rfl⟩
  obtain ⟨⟨n4, p4, b4⟩, h4⟩ : ∃ t, rT xb p3 b3 (n3 + 1) = t := ⟨_, rfl⟩
  have g1 := rT_place xb p bad 1 hp
  rw [h1] at g1
  have g2 := rT_place xb p1 b1 6 g1.2.1
  rw [h2] at g2
  have g3 := rT_place xb p2 b2 6 g2.2.1
  rw [h3] at g3
  simp only at g1 g2 g3
  have m2 : n2 < 64 := g2.2.2.2
  have m3 : n3 < 64 := g3.2.2.2
  have t1 := take_r hx hlen p bad 1 (by decide) hp 100 (by decide)
  have t2 := take_r hx hlen p1 b1 6 (by decide) g1.2.1 100 (by decide)
  have t3 := take_r hx hlen p2 b2 6 (by decide) g2.2.1 100 (by decide)
  have t4 := take_r hx hlen p3 b3 (n3 + 1) (by omega) g3.2.1 100 (by omega)
  rw [h1] at t1
  rw [h2] at t2
  rw [h3] at t3
  rw [h4] at t4
  rw [rX_eq h1 h2 h3 h4]
  unfold dryrotref11_in_takeXor.f
  rw [show (1 : Int) = ((1 : Nat) : Int) from rfl, t1, Option.bind_some]
  simp only
  by_cases z : n1 = 0
  · rw [if_pos (by omega), if_pos z]
  · rw [if_neg (by omega), if_neg z, show (6 : Int) = ((6 : Nat) : Int) from rfl, t2, Option.bind_some]
    simp only
    rw [t3, Option.bind_some]
    simp only
    have e3 : wrap64 (wrap64 (n3 : Int) + ((1 : Nat) : Int)) = ((n3 + 1 : Nat) : Int) := by rw [w64nat (by omega), w64 (by omega) (by omega)]; omega
    have e2 : wrap64 (n2 : Int) = (n2 : Int) := w64nat (by omega)
    rw [e3, t4, Option.bind_some, e2]
    simp only
    clear e3 e2
    have e5 : wrap64 ((n2 : Int) + ((n3 + 1 : Nat) : Int)) = ((n2 + (n3 + 1) : Nat) : Int) := by rw [w64 (by omega) (by omega)]; omega
    rw [e5]
    clear e5
    by_cases y : 64 < n2 + (n3 + 1)
    · rw [if_pos (by omega), if_pos y]
    · have e6 : wrap64 (wrap64 (64 - (n2 : Int)) - ((n3 + 1 : Nat) : Int)) = ((64 - n2 - (n3 + 1) : Nat) : Int) := by rw [w64 (x := 64 - (n2 : Int)) (by omega) (by omega), w64 (by omega) (by omega)]; omega
      rw [if_neg (by omega), if_neg y, e6]
      clear e6
      rw [if_pos (by omega)]
theorem rX_range (xb : List Int) (p : Nat) (bad : Bool) : 0 ≤ (rX xb p bad).1 ∧ (rX xb p bad).1 < 18446744073709551616 := by
  unfold rX
  split
  · exact ⟨Int.le_refl 0, (by decide : (0 : Int) < 18446744073709551616)⟩
  · split
    · exact ⟨Int.le_refl 0, (by decide : (0 : Int) < 18446744073709551616)⟩
    · unfold shl
      exact u64_wrap_range _
theorem rX_place (xb : List Int) (p : Nat) (bad : Bool) (hp : p ≤ 8 * xb.length) : p ≤ (rX xb p bad).2.1 ∧ (rX xb p bad).2.1 ≤ 8 * xb.length ∧ ((rX xb p bad).2.2 = false → bad = false ∧ p < (rX xb p bad).2.1) := by
  obtain ⟨⟨n1, p1, b1⟩, h1⟩ : ∃ t, rT xb p bad 1 = t := ⟨_, rfl⟩
  obtain ⟨⟨n2, p2, b2⟩, h2⟩ : ∃ t, rT xb p1 b1 6 = t := ⟨_, rfl⟩
  obtain ⟨⟨n3, p3, b3⟩, h3⟩ : ∃ t, rT xb p2 b2 6 = t := ⟨_, rfl⟩
  obtain ⟨⟨n4, p4, b4⟩, h4⟩ : ∃ t, rT xb p3 b3 (n3 + 1) = t := ⟨_, rfl⟩
  have g1 := rT_place xb p bad 1 hp
  rw [h1] at g1
  have g2 := rT_place xb p1 b1 6 g1.2.1
  rw [h2] at g2
  have g3 := rT_place xb p2 b2 6 g2.2.1
  rw [h3] at g3
  have g4 := rT_place xb p3 b3 (n3 + 1) g3.2.1
  rw [h4] at g4
  simp only at g1 g2 g3 g4
  rw [rX_eq h1 h2 h3 h4]
  split
  · refine ⟨g1.1, g1.2.1, fun e => ?_⟩
    have := g1.2.2.1 e
    exact ⟨this.1, by show p < p1; omega⟩
  · split
    · exact ⟨by show p ≤ p4; omega, g4.2.1, fun e => by simp at e⟩
    · refine ⟨by show p ≤ p4; omega, g4.2.1, fun e => ?_⟩
      have a4 := g4.2.2.1 e
      have a3 := g3.2.2.1 a4.1
      have a2 := g2.2.2.1 a3.1
      have a1 := g1.2.2.1 a2.1
      exact ⟨a1.1, by show p < p4; omega⟩
theorem unT_rT {xb : List Int} {p c : Nat} (bad : Bool) (h : (unT xb ((8 * xb.length : Nat) : Int) ((p : Int), false) (c : Int)).2.2 = false) (hl : xb.length ≤ 100000) :
    (unT xb ((8 * xb.length : Nat) : Int) ((p : Int), false) (c : Int)) = (((rT xb p bad c).1 : Int), ((rT xb p bad c).2.1 : Int), false) ∧ (rT xb p bad c).2.2 = bad := by
  have hq := unT_place (l := xb) (N := 8 * xb.length) (c := (c : Int)) (s := ((p : Int), false)) (by omega) h
  simp only at hq
  have hle : p + c ≤ 8 * xb.length := by omega
  have e : rT xb p bad c = (num (win xb p c), p + c, bad) := by rw [rT, if_pos hle]
  rw [e]
  refine ⟨?_, rfl⟩
  unfold unT takeR at h ⊢
  simp only [Bool.false_or] at h ⊢
  split at h
  · simp at h
  · rename_i z
    rw [if_neg z]
    split at h
    · simp at h
    · rename_i y
      rw [if_neg y, Int.toNat_natCast, Int.toNat_natCast]
      simp only [Prod.mk.injEq, true_and]
      refine ⟨?_, rfl⟩
      rw [w64 (by omega) (by omega)]
      omega
/-- what the program's reading finds, the reference's finds -/
theorem rX_of {xb : List Int} {p : Nat} (bad : Bool) {v q : Int} (h : unV xb ((8 * xb.length : Nat) : Int) ((p : Int), false) = (v, q, false)) (hl : xb.length ≤ 100000) : (rX xb p bad).1 = v ∧ ((rX xb p bad).2.1 : Int) = q ∧ (rX xb p bad).2.2 = bad := by
  obtain ⟨⟨n1, p1, b1⟩, h1⟩ : ∃ t, rT xb p bad 1 = t := ⟨_, rfl⟩
  obtain ⟨⟨n2, p2, b2⟩, h2⟩ : ∃ t, rT xb p1 b1 6 = t := ⟨_, rfl⟩
  obtain ⟨⟨n3, p3, b3⟩, h3⟩ : ∃ t, rT xb p2 b2 6 = t := ⟨_, rfl⟩
  obtain ⟨⟨n4, p4, b4⟩, h4⟩ : ∃ t, rT xb p3 b3 (n3 + 1) = t := ⟨_, rfl⟩
  rw [rX_eq h1 h2 h3 h4]
  obtain ⟨a, ha⟩ : ∃ a, unT xb ((8 * xb.length : Nat) : Int) ((p : Int), false) 1 = a := ⟨_, rfl⟩
  obtain ⟨b, hb⟩ : ∃ b, unT xb ((8 * xb.length : Nat) : Int) a.2 6 = b := ⟨_, rfl⟩
  obtain ⟨d, hd⟩ : ∃ d, unT xb ((8 * xb.length : Nat) : Int) b.2 6 = d := ⟨_, rfl⟩
  obtain ⟨w, hw⟩ : ∃ w, wrap64 (wrap64 d.1 + 1) = w := ⟨_, rfl⟩
  obtain ⟨t, ht⟩ : ∃ t, unT xb ((8 * xb.length : Nat) : Int) d.2 w = t := ⟨_, rfl⟩
  unfold unV at h
  simp only [ha, hb, hd, hw, ht] at h
  rw [if_neg (by simp)] at h
  by_cases c1 : a.1 = 0
  · rw [if_pos c1] at h
    simp only [Prod.mk.injEq] at h
    obtain ⟨hv, hq⟩ := h
    have z : (unT xb ((8 * xb.length : Nat) : Int) ((p : Int), false) ((1 : Nat) : Int)).2.2 = false := by show (unT xb _ _ 1).2.2 = false; rw [ha, hq]
    obtain ⟨e1, e2⟩ := unT_rT bad z hl
    rw [h1] at e1 e2
    have e1' : a = ((n1 : Int), (p1 : Int), false) := ha ▸ e1
    rw [e1'] at c1 hq
    simp only [Prod.mk.injEq] at hq
    rw [if_pos (by simpa using c1)]
    exact ⟨hv, hq.1, e2⟩
  · rw [if_neg c1] at h
    by_cases c2 : (d.2.2 || decide (64 < wrap64 (wrap64 b.1 + w))) = true
    · rw [if_pos c2] at h
      simp at h
    · rw [if_neg c2] at h
      rw [Bool.not_eq_true, Bool.or_eq_false_iff, decide_eq_false_iff_not] at c2
      have pd := unT_place (l := xb) (N := 8 * xb.length) (c := 6) (s := b.2) (by omega) (by rw [hd]; exact c2.1)
      have pb := unT_place (l := xb) (N := 8 * xb.length) (c := 6) (s := a.2) (by omega) (by rw [hb]; exact pd.1)
      have z1 : (unT xb ((8 * xb.length : Nat) : Int) ((p : Int), false) ((1 : Nat) : Int)).2.2 = false := by show (unT xb _ _ 1).2.2 = false; rw [ha]; exact pb.1
      obtain ⟨e1, f1⟩ := unT_rT bad z1 hl
      rw [h1] at e1 f1
      have e1' : a = ((n1 : Int), (p1 : Int), false) := ha ▸ e1
      have z2 : (unT xb ((8 * xb.length : Nat) : Int) ((p1 : Int), false) ((6 : Nat) : Int)).2.2 = false := by
        have : (unT xb ((8 * xb.length : Nat) : Int) a.2 6).2.2 = false := by rw [hb]; exact pd.1
        rw [e1'] at this
        exact this
      obtain ⟨e2, f2⟩ := unT_rT b1 z2 hl
      rw [h2] at e2 f2
      have e2' : b = ((n2 : Int), (p2 : Int), false) := by rw [← hb, e1']; exact e2
      have z3 : (unT xb ((8 * xb.length : Nat) : Int) ((p2 : Int), false) ((6 : Nat) : Int)).2.2 = false := by
        have : (unT xb ((8 * xb.length : Nat) : Int) b.2 6).2.2 = false := by rw [hd]; exact c2.1
        rw [e2'] at this
        exact this
      obtain ⟨e3, f3⟩ := unT_rT b2 z3 hl
      rw [h3] at e3 f3
      have e3' : d = ((n3 : Int), (p3 : Int), false) := by rw [← hd, e2']; exact e3
      have hn3 : n3 < 64 := by
        have := unT_six xb ((8 * xb.length : Nat) : Int) b.2
        rw [hd, e3'] at this
        simp only at this
        omega
      have hn2 : n2 < 64 := by
        have := unT_six xb ((8 * xb.length : Nat) : Int) a.2
        rw [hb, e2'] at this
        simp only at this
        omega
      have hw' : w = ((n3 + 1 : Nat) : Int) := by rw [← hw, e3', w64nat (by omega), w64 (by omega) (by omega)]; omega
      simp only [Prod.mk.injEq] at h
      obtain ⟨hv, hq⟩ := h
      have z4 : (unT xb ((8 * xb.length : Nat) : Int) ((p3 : Int), false) ((n3 + 1 : Nat) : Int)).2.2 = false := by
        have : (unT xb ((8 * xb.length : Nat) : Int) d.2 w).2.2 = false := by rw [ht, hq]
        rw [e3', hw'] at this
        exact this
      obtain ⟨e4, f4⟩ := unT_rT b3 z4 hl
      rw [h4] at e4 f4
      have e4' : t = ((n4 : Int), (p4 : Int), false) := by rw [← ht, e3', hw']; exact e4
      have c3 := c2.2
      rw [e2', hw', w64nat (by omega), show ((n2 : Int) + ((n3 + 1 : Nat) : Int)) = ((n2 + (n3 + 1) : Nat) : Int) by omega, w64nat (by omega)] at c3
      rw [e1'] at c1
      rw [if_neg (by simpa using c1), if_neg (by omega)]
      rw [e4'] at hv hq
      simp only [Prod.mk.injEq, and_true] at hq
      refine ⟨?_, hq, f4.trans (f3.trans (f2.trans f1))⟩
      rw [← hv, e2', hw']
      congr 1
      rw [w64nat (by omega), show 64 - (n2 : Int) = ((64 - n2 : Nat) : Int) by omega, w64nat (by omega), show (((64 - n2 : Nat) : Int) - ((n3 + 1 : Nat) : Int)) = ((64 - n2 - (n3 + 1) : Nat) : Int) by omega, w64nat (by omega)]
end Go.Proofs.YtpeekkpdglfbbaaDoor.PA
namespace Go.Proofs.YtpeekkpdglfbbaaDoor.PA
open Go.RowKit Go.Proofs.YtpeekkpdglfbbaaDoor.G Go.Proofs.YtpeekkpdglfbbaaDoorW.PrintWords Go.Proofs.YtpeekkpdglfbbaaDoorW.PrintLast Go.Proofs.YtpeekkpdglfbbaaDoorW.PrintMore
set_option linter.unusedVariables false
set_option linter.unusedSimpArgs false

/-- bytes are what is written of these samples -/
def Good (b : List Int) (l0 : List S26) : Prop := (∀ x ∈ l0, okS x) ∧ canS l0 = true ∧ l0.length ≤ 20000 ∧ encL l0 = b
/-- what holds behind k samples -/
def RI (b xb : List Int) (l : List S26) (k p : Nat) : Prop := l.length = k ∧ (∀ x ∈ l, okS x) ∧ k ≤ p ∧ p ≤ 8 * xb.length ∧ ∀ l0, Good b l0 → k ≤ l0.length → l = l0.take k ∧ p = (encP l0 k).length
/-- what holds of one sample more -/
def StepOK (b xb : List Int) (l : List S26) (k : Nat) (s : S26) (p' : Nat) (bad' : Bool) : Prop := p' ≤ 8 * xb.length ∧ (bad' = false → RI b xb (l ++ [s]) (k + 1) p') ∧ ∀ l0, Good b l0 → k < l0.length → bad' = false
theorem good_bits {b xb : List Int} {l0 : List S26} (h : Good b l0) (hxb : b.drop 2 = xb) : OkX xb (8 * xb.length) ∧ (∃ Z, Bs xb (8 * xb.length) = encP l0 l0.length ++ Z) ∧ beV 0 (b.take 2) = l0.length ∧ 2 ≤ b.length := by
  obtain ⟨h1, h2, h3, h4⟩ := h
  have hP := encP_len l0 h1 l0.length (Nat.le_refl _)
  obtain ⟨hX, hBs⟩ := packB_ok (encP l0 l0.length) (by omega)
  obtain ⟨Z, hZ⟩ := Bs_full hX
  rw [hBs] at hZ
  have hd : xb = packB (encP l0 l0.length) := by rw [← hxb, ← h4, encL, List.drop_left' (beL_length _ _)]
  have ht : b.take 2 = beL l0.length 2 := by rw [← h4, encL, List.take_left' (beL_length _ _)]
  have hb : b.length = 2 + (packB (encP l0 l0.length)).length := by rw [← h4, encL, List.length_append, beL_length]
  rw [hd]
  exact ⟨okX_full hX, ⟨Z, hZ⟩, by rw [ht]; exact beV_two _ (by omega), by omega⟩
theorem headI_part {l : List Int} {N : Nat} {B Z : List Bool} {v : Int} (hv : (Lit.int .i64 v).wf = true) (h : Bs l N = B ++ intBits v ++ Z) : headI l N 4 B.length = (v, ((B.length + (intBits v).length : Nat) : Int), 0) := by
  have hN : B.length + (intBits v).length ≤ N := by have := congrArg List.length h; simp at this; omega
  have h1 := Bs_take h (m := B.length + (intBits v).length) (by simp)
  exact headI_mono hN 4 B.length (head_back v hv h1)
theorem ri_0 {b xb : List Int} {p : Nat} (hx : OkL xb) (hl : xb.length ≤ 100000) (hxb : b.drop 2 = xb) (h : RI b xb [] 0 p) {a d : Nat × Nat × Bool} (ha : rT xb p false 64 = a) (hd : rT xb a.2.1 a.2.2 64 = d) (hp0 : p = 0) : StepOK b xb [] 0 ⟨wrap64 (a.1 : Int), (d.1 : Int)⟩ d.2.1 d.2.2 := by
  subst hp0
  have g1 := rT_place xb 0 false 64 (by omega)
  rw [ha] at g1
  have g2 := rT_place xb a.2.1 a.2.2 64 g1.2.1
  rw [hd] at g2
  have key : ∀ l0, Good b l0 → 0 < l0.length → d.2.2 = false ∧ wrap64 (a.1 : Int) = (rd_T26 l0 0).f0 ∧ (d.1 : Int) = (rd_T26 l0 0).f1 ∧ d.2.1 = (encP l0 1).length := by
    intro l0 hg hl0
    obtain ⟨hX, ⟨Z, hZ⟩, _, _⟩ := good_bits hg hxb
    obtain ⟨Y, hY⟩ := encP_pre l0 1 (l0.length - 1)
    rw [show 1 + (l0.length - 1) = l0.length by omega] at hY
    have hm := hg.1 _ (rd_mem26 l0 0 hl0)
    have hu := u64_wrap_range (rd_T26 l0 0).f0
    obtain ⟨u, eu⟩ := Int.eq_ofNat_of_zero_le hu.1
    obtain ⟨v, ev⟩ := Int.eq_ofNat_of_zero_le hm.2.1
    have ev' : (rd_T26 l0 0).f1 = (v : Int) := ev
    have hv : v < 18446744073709551616 := by have := hm.2.2; rw [ev] at this; omega
    have huu : u < 18446744073709551616 := by rw [eu] at hu; omega
    have e1 : encP l0 1 = low u 64 ++ low v 64 := by
      show low (IntKind.u64.wrap (rd_T26 l0 0).f0).toNat 64 ++ low (rd_T26 l0 0).f1.toNat 64 = _
      rw [eu, ev']
      rfl
    rw [hY, e1] at hZ
    have a1 := unT_part (c := 64) (B := []) (L := low u 64) (Z := low v 64 ++ (Y ++ Z)) hX (low_length _ _) (by decide) (by simp) (by rw [hZ]; simp only [List.nil_append, List.append_assoc])
    have a2 := unT_part (c := 64) (B := low u 64) (L := low v 64) (Z := Y ++ Z) hX (low_length _ _) (by decide) (by simp) (by rw [hZ]; simp only [List.append_assoc])
    rw [num_low, Nat.mod_eq_of_lt huu] at a1
    rw [num_low, Nat.mod_eq_of_lt hv, low_length] at a2
    obtain ⟨q1, f1⟩ := unT_rT (xb := xb) (p := 0) (c := 64) false (by have := congrArg (fun z => z.2.2) a1; exact this) hl
    rw [show ((0 : Nat) : Int) = ((([] : List Bool).length : Nat) : Int) from rfl, a1] at q1
    rw [ha] at q1 f1
    simp only [Prod.mk.injEq, and_true] at q1
    have hp1 : a.2.1 = 64 := by have := q1.2; simp at this; omega
    obtain ⟨q2, f2⟩ := unT_rT (xb := xb) (p := 64) (c := 64) a.2.2 (by have := congrArg (fun z => z.2.2) a2; exact this) hl
    have hd' := hd
    rw [hp1] at hd'
    rw [a2, hd'] at q2
    rw [hd'] at f2
    simp only [Prod.mk.injEq, and_true] at q2
    have ef : wrap64 (u : Int) = (rd_T26 l0 0).f0 := by
      have := first_back (rd_T26 l0 0).f0 hm.1
      rw [eu] at this
      exact this
    refine ⟨f2.trans f1, ?_, ?_, ?_⟩
    · rw [← q1.1]; exact ef
    · rw [← q2.1]; exact ev'.symm
    · rw [e1, List.length_append, low_length, low_length]; omega
  refine ⟨g2.2.1, fun e => ⟨rfl, fun x hx => ?_, ?_, g2.2.1, fun l0 hg hl0 => ?_⟩, fun l0 hg hl0 => (key l0 hg hl0).1⟩
  · simp only [List.nil_append, List.mem_singleton] at hx
    subst hx
    refine ⟨wrap64_in _, Int.natCast_nonneg _, ?_⟩
    show (d.1 : Int) < _
    have := g2.2.2.2
    omega
  · have := g2.2.2.1 e
    omega
  · have hk := key l0 hg (by omega)
    refine ⟨?_, hk.2.2.2⟩
    rw [take_succ26 l0 0 (by omega), hk.2.1, hk.2.2.1]
    rfl
theorem wrap_add (a b : Int) : wrap64 (wrap64 a + b) = wrap64 (a + b) := by unfold wrap64; omega
theorem wrap_add' (a b : Int) : wrap64 (a + wrap64 b) = wrap64 (a + b) := by unfold wrap64; omega
theorem stepP_take (l0 : List S26) (k m : Nat) (h : k ≤ m) : stepP (l0.take m) k = stepP l0 k := by
  match k, h with
  | 0, _ => rfl
  | 1, _ => rfl
  | k + 2, h => rw [stepP, stepP, rd_take26 _ _ _ (by omega), rd_take26 _ _ _ (by omega)]
theorem ri_succ {b xb : List Int} {l : List S26} {k p : Nat} (hx : OkL xb) (hl : xb.length ≤ 100000) (hxb : b.drop 2 = xb) (h : RI b xb l (k + 1) p) {y : S26} (hy : rd_T26 l (k : Int) = y) {a d : Int × Nat × Bool} (ha : rHead xb 4 p false = a) (hd : rX xb a.2.1 a.2.2 = d) : StepOK b xb l (k + 1) ⟨wrap64 (y.f0 + wrap64 (stepP l (k + 1) + a.1)), Go.bits .xor .u64 y.f1 d.1⟩ d.2.1 d.2.2 := by
  obtain ⟨r1, r2, r3, r4, r5⟩ := h
  have g1 := rHead_place xb 4 p false r4
  rw [ha] at g1
  have g2 := rX_place xb a.2.1 a.2.2 g1.2.1
  rw [hd] at g2
  have hdr := rX_range xb a.2.1 a.2.2
  rw [hd] at hdr
  have hyok : okS y := hy ▸ okS_rd r2 (k : Int)
  have key : ∀ l0, Good b l0 → k + 1 < l0.length → d.2.2 = false ∧ wrap64 (y.f0 + wrap64 (stepP l (k + 1) + a.1)) = (rd_T26 l0 ((k + 1 : Nat) : Int)).f0 ∧ Go.bits .xor .u64 y.f1 d.1 = (rd_T26 l0 ((k + 1 : Nat) : Int)).f1 ∧ d.2.1 = (encP l0 (k + 2)).length ∧ l = l0.take (k + 1) := by
    intro l0 hg hl0
    obtain ⟨hX, ⟨Z, hZ⟩, _, _⟩ := good_bits hg hxb
    obtain ⟨el, ep⟩ := r5 l0 hg (by omega)
    obtain ⟨Y, hY⟩ := encP_pre l0 (k + 2) (l0.length - (k + 2))
    rw [show k + 2 + (l0.length - (k + 2)) = l0.length by omega] at hY
    have hlen := encP_len l0 hg.1 (k + 1) (by omega)
    have h20 := hg.2.2.1
    have hx1 := hg.1 _ (rd_mem26 l0 (k + 1) (by omega))
    have e2 : encP l0 (k + 2) = encP l0 (k + 1) ++ (intBits (wrap64 (wrap64 ((rd_T26 l0 ((k + 1 : Nat) : Int)).f0 - (rd_T26 l0 ((k : Nat) : Int)).f0) - stepP l0 (k + 1))) ++ xorBits ((rd_T26 l0 ((k + 1 : Nat) : Int)).f1.toNat ^^^ (rd_T26 l0 ((k : Nat) : Int)).f1.toNat)) := rfl
    have hst := stepP_in l0 (k + 1)
    have es : stepP l (k + 1) = stepP l0 (k + 1) := by rw [el]; exact stepP_take l0 (k + 1) (k + 1) (Nat.le_refl _)
    have ey : rd_T26 l0 ((k : Nat) : Int) = y := by rw [← hy, el]; exact (rd_take26 l0 k (k + 1) (by omega)).symm
    rw [ey] at e2
    obtain ⟨x, ex⟩ : ∃ x, rd_T26 l0 ((k + 1 : Nat) : Int) = x := ⟨_, rfl⟩
    rw [ex] at e2 hx1 ⊢
    obtain ⟨st, est⟩ : ∃ st, stepP l0 (k + 1) = st := ⟨_, rfl⟩
    rw [est] at e2 hst es
    obtain ⟨v, ev⟩ : ∃ v, wrap64 (wrap64 (x.f0 - y.f0) - st) = v := ⟨_, rfl⟩
    have hv : (Lit.int .i64 v).wf = true := ev ▸ i64_wf (wrap64_in _)
    have hxx := xor_lt hx1.2 hyok.2
    have htb := time_back x.f0 y.f0 st hx1.1 hst
    have hxbk := xor_back hx1.2 hyok.2
    rw [ev] at e2 htb
    obtain ⟨q, eq⟩ : ∃ q, x.f1.toNat ^^^ y.f1.toNat = q := ⟨_, rfl⟩
    rw [eq] at e2 hxx hxbk
    rw [hY, e2] at hZ
    have a1 := headI_part (B := encP l0 (k + 1)) (Z := xorBits q ++ (Y ++ Z)) hv (by rw [hZ]; simp only [List.append_assoc])
    have hil := intBits_len v
    have a2 := unV_part (x := q) (B := encP l0 (k + 1) ++ intBits v) (Z := Y ++ Z) hX hxx (by simp; omega) (by rw [hZ]; simp only [List.append_assoc])
    rw [← ep] at a1
    obtain ⟨b1, b2, b3⟩ := rHead_of xb false 4 p r4 a1
    rw [ha] at b1 b2 b3
    have hpa : a.2.1 = (encP l0 (k + 1) ++ intBits v).length := by rw [List.length_append]; omega
    rw [← hpa] at a2
    obtain ⟨c1, c2, c3⟩ := rX_of a.2.2 a2 hl
    rw [hd] at c1 c2 c3
    refine ⟨c3.trans b3, ?_, ?_, ?_, el⟩
    · rw [es, b1, htb.1, htb.2]
    · rw [c1]; exact hxbk
    · rw [e2]
      simp only [List.length_append] at hpa ⊢
      omega
  refine ⟨g2.2.1, fun e => ⟨by simp [r1], fun s hs => ?_, ?_, g2.2.1, fun l0 hg hl0 => ?_⟩, fun l0 hg hl0 => (key l0 hg hl0).1⟩
  · rcases List.mem_append.1 hs with hs | hs
    · exact r2 s hs
    · rw [List.mem_singleton] at hs
      subst hs
      have hxx := xor_in hyok.2 hdr
      refine ⟨wrap64_in _, ?_, ?_⟩
      · show 0 ≤ Go.bits .xor .u64 _ _
        rw [hxx.1]; omega
      · show Go.bits .xor .u64 _ _ < _
        rw [hxx.1]; have := hxx.2; omega
  · have e2 := g2.2.2 e
    have e1 := g1.2.2 e2.1
    rw [if_neg (by decide)] at e1
    omega
  · have hk := key l0 hg (by omega)
    refine ⟨?_, hk.2.2.2.1⟩
    rw [take_succ26 l0 (k + 1) (by omega), ← hk.2.2.2.2, hk.2.1, hk.2.2.1]
/-- the answers agree -/
theorem dec_agree {b : List Int} {l : List S26} {e : Int} (h1 : e = 0 ∧ encF l = (b, 0) ∧ (∀ x ∈ l, okS x) ∧ l.length ≤ 20000 ∨ e = 5 ∧ l = []) (h2 : ∀ l0, Good b l0 → e = 0 ∧ l = l0) (hd : ∀ x ∈ (decF b).1, okS x) (hdl : (decF b).1.length ≤ 20000) : decF b = (l, e) := by
  rcases h1 with ⟨rfl, h3, h4, h5⟩ | ⟨rfl, rfl⟩
  · have hc : canS l = true := by
      rcases hq : canS l with _ | _
      · rw [encF, if_neg (by rw [hq]; simp)] at h3
        simp at h3
      · rfl
    have hde := dec_enc l h4 h5 hc
    have hb : encL l = b := by rw [hde.1] at h3; exact (Prod.mk.inj h3).1
    rw [← hb]
    exact hde.2.1
  · unfold decF at hd hdl ⊢
    split
    · rfl
    · rename_i hlt
      rw [if_neg hlt] at hd hdl
      split
      · rename_i hq
        rw [if_pos hq] at hd hdl
        have hc : canS (decS (b.drop 2) ((8 * (b.length - 2) : Nat) : Int) (beV 0 (b.take 2))).2.2.1 = true := by
          rcases hz : canS (decS (b.drop 2) ((8 * (b.length - 2) : Nat) : Int) (beV 0 (b.take 2))).2.2.1 with _ | _
          · have := hq.2
            rw [encF, if_neg (by rw [hz]; simp)] at this
            simp at this
          · rfl
        have hg : Good b (decS (b.drop 2) ((8 * (b.length - 2) : Nat) : Int) (beV 0 (b.take 2))).2.2.1 := ⟨hd, hc, hdl, by have := hq.2; rw [encF, if_pos hc] at this; exact (Prod.mk.inj this).1⟩
        exact absurd (h2 _ hg).1 (by decide)
      · rfl
end Go.Proofs.YtpeekkpdglfbbaaDoor.PA
namespace Go.Proofs.YtpeekkpdglfbbaaDoor.PA
open Go.RowKit Go.Proofs.YtpeekkpdglfbbaaDoor.G Go.Proofs.YtpeekkpdglfbbaaDoorW.PrintWords Go.Proofs.YtpeekkpdglfbbaaDoorW.PrintLast Go.Proofs.YtpeekkpdglfbbaaDoorW.PrintMore
set_option linter.unusedVariables false
set_option linter.unusedSimpArgs false

theorem rtake.calls (g : Nat) (xb : List Int) (p : Nat) (bad : Bool) (c : Nat) (r : Nat × Nat × Bool) (w0 w : World) (hI : IsS61 w0 w g xb (p : Int) bad) (hB : Below w0.heap.size w0 w) (hx : OkL xb) (hl : xb.length ≤ 100000) (hp : p ≤ 8 * xb.length) (hc : c ≤ 64) (h : rT xb p bad c = r) :
    Calls Tryd.prog 31 #[.pointer (some ⟨g, 0, none⟩), .int .i64 (c : Int)] w fun e w' => e = .returned (.int .u64 (r.1 : Int)) ∧ IsS61 w0 w' g xb (r.2.1 : Int) r.2.2 ∧ Below w0.heap.size w0 w' ∧ KeepBut w w' g none := by
  subst h
  exact dryrotref11_in_take.calls 100 g xb p bad c _ _ _ w0 w hI hB (take_r hx hl p bad c hc hp 100 (by omega))
theorem rint.calls (g : Nat) (xb : List Int) (p : Nat) (bad : Bool) (r : Int × Nat × Bool) (w0 w : World) (hI : IsS61 w0 w g xb (p : Int) bad) (hB : Below w0.heap.size w0 w) (hx : OkL xb) (hl : xb.length ≤ 100000) (hp : p ≤ 8 * xb.length) (h : rHead xb 4 p bad = r) :
    Calls Tryd.prog 32 #[.pointer (some ⟨g, 0, none⟩)] w fun e w' => e = .returned (.int .i64 r.1) ∧ IsS61 w0 w' g xb (r.2.1 : Int) r.2.2 ∧ Below w0.heap.size w0 w' ∧ KeepBut w w' g none := by
  subst h
  exact dryrotref11_in_takeInt.calls 100 g xb p bad _ _ _ w0 w hI hB (tint_r hx hl p bad hp)
theorem rxor.calls (g : Nat) (xb : List Int) (p : Nat) (bad : Bool) (r : Int × Nat × Bool) (w0 w : World) (hI : IsS61 w0 w g xb (p : Int) bad) (hB : Below w0.heap.size w0 w) (hx : OkL xb) (hl : xb.length ≤ 100000) (hp : p ≤ 8 * xb.length) (h : rX xb p bad = r) :
    Calls Tryd.prog 33 #[.pointer (some ⟨g, 0, none⟩)] w fun e w' => e = .returned (.int .u64 r.1) ∧ IsS61 w0 w' g xb (r.2.1 : Int) r.2.2 ∧ Below w0.heap.size w0 w' ∧ KeepBut w w' g none := by
  subst h
  exact dryrotref11_in_takeXor.calls 100 g xb p bad _ _ _ w0 w hI hB (txor_r hx hl p bad hp)
theorem rGet_at {n : Nat} (A0 : Option Addr) (c0 : Nat) (l0 : List Int) (r1 : Int) (r2 : Bool) (w : World) (hn : l0.length = n) (hr0 : Kd.C (Kd.int .u8) w A0 l0.length l0) (hc0 : n ≤ c0) (h : crc_Get.f l0 = some (r1, r2)) :
    Calls Tryd.prog 30 #[.slice A0 n c0] w fun e w' => e = .returned (.tuple #[.int .u64 r1, .bool r2]) ∧ Below w.heap.size w w' := by
  subst hn
  exact (G.dryrotref01_Get.calls A0 c0 l0 r1 r2 w hr0 hc0 h).mono fun e w' ⟨he, hd⟩ => ⟨he, hd.below⟩
theorem rEnc_at {n : Nat} (A : Option Addr) (c : Nat) (l : List S26) (w : World) (eb : List Int) (ee : Int) (hn : l.length = n) (hr : Kd.C k26 w A l.length l) (hc : n ≤ c) (hw : ∀ x ∈ l, okS x) (hlen : n ≤ 20000) (he : encF l = (eb, ee)) :
    Calls Tryd.prog 18 #[.slice A n c] w fun e w' => ∃ v : Value, e = .returned (.tuple #[v, .int .i64 ee]) ∧ Kd.R (Kd.int .u8) 5 w' w.heap.size (fun _ => True) v eb ∧ Below w.heap.size w w' := by
  subst hn
  cases h : canS l with
  | true =>
    rw [encF, if_pos h] at he
    obtain ⟨rfl, rfl⟩ := Prod.mk.inj he
    exact rEncode.ok A c l w hr hc hw hlen h
  | false =>
    rw [encF, if_neg (by rw [h]; simp)] at he
    obtain ⟨rfl, rfl⟩ := Prod.mk.inj he
    refine (rEncode.bad A c l w hr hc hlen h).mono ?_
    rintro e w' ⟨rfl, hb⟩
    exact ⟨_, rfl, Kd.R_nil _ _ _ _ _, hb⟩
theorem decF_ok (b : List Int) (hlen : b.length ≤ 2500) : (∀ x ∈ (decF b).1, okS x) ∧ (decF b).1.length ≤ 20000 := by
  have h := decS_inv (b.drop 2) (8 * (b.length - 2)) (by omega) (beV 0 (b.take 2))
  unfold decF
  split
  · exact ⟨fun x hx => absurd hx (by simp), by simp⟩
  · split
    · exact ⟨h.1, Nat.le_trans h.2.1 (by omega)⟩
    · exact ⟨fun x hx => absurd hx (by simp), by simp⟩
/-- the answer in its own words -/
def Ans (b : List Int) (l : List S26) (e : Int) : Prop := (e = 0 ∧ encF l = (b, 0) ∧ (∀ x ∈ l, okS x) ∧ l.length ≤ 20000 ∨ e = 5 ∧ l = []) ∧ ∀ l0, Good b l0 → e = 0 ∧ l = l0
theorem ans_dec {b : List Int} {l : List S26} {e : Int} (h : Ans b l e) (hlen : b.length ≤ 2500) : decF b = (l, e) := dec_agree h.1 h.2 (decF_ok b hlen).1 (decF_ok b hlen).2
theorem ans_bad {b xb : List Int} {l : List S26} {k p : Nat} {s : S26} (h : StepOK b xb l k s p true) (hk : ∀ l0, Good b l0 → k < l0.length) : Ans b [] 5 :=
  ⟨.inr ⟨rfl, rfl⟩, fun l0 hg => absurd (h.2.2 l0 hg (hk l0 hg)) (by simp)⟩

set_option maxHeartbeats 8000000 in
set_option maxRecDepth 100000 in
theorem rDecode.calls0 (A : Option Addr) (c : Nat) (b : List Int) (w : World) (hr : Kd.C (Kd.int .u8) w A b.length b) (hc : b.length ≤ c) (hok : okB b = true) (hlen : b.length ≤ 2500) :
    Calls Tryd.prog 13 #[.slice A b.length c] w fun e w' => ∃ (v : Value) (l : List S26) (ee : Int), e = .returned (.tuple #[v, .int .i64 ee]) ∧ Ans b l ee ∧ Kd.R k26 26 w' w.heap.size (fun _ => True) v l ∧ Below w.heap.size w w' := by
  by_cases h2 : b.length < 2
  · have d0 : decide ((b.length : Int) < 2) = true := decide_eq_true (by omega)
    have HA : Aside0 (Ans b [] 5) := ⟨.inr ⟨rfl, rfl⟩, fun l0 hg => absurd (good_bits hg rfl).2.2.2 (by omega)⟩
    clear h2 hr hc
    go_enter Tryd.func13, Tryd.ntmps13
    go_wp2
    refine bodyPost_ret (results_tmp2 rfl _ _ _) rfl ?_
    exact ⟨_, [], 5, rfl, HA.out, Kd.R_nil _ _ _ _ _, Below.refl _ _⟩
  have d0 : decide ((b.length : Int) < 2) = false := decide_eq_false (by omega)
  obtain ⟨xb, hxb⟩ : ∃ xb, b.drop 2 = xb := ⟨_, rfl⟩
  have hxl : xb.length = b.length - 2 := by rw [← hxb, List.length_drop]
  obtain ⟨hget, hn64⟩ := get2 hok (by omega)
  obtain ⟨n, hn⟩ : ∃ n, beV 0 (b.take 2) = n := ⟨_, rfl⟩
  rw [hn] at hget hn64
  have HGN : Aside0 (∀ l0, Good b l0 → l0.length = n) := ⟨fun l0 hg => by rw [← (good_bits hg hxb).2.2.1, hn]⟩
  have hokx : OkL xb := fun x hx => okB_iff.1 hok x (List.mem_of_mem_drop (hxb ▸ hx))
  obtain ⟨i05, hi05, _, hsz5, _⟩ := info_parts infoU8
  have hto := cut_to (P := Tryd.prog) 27 5 .i64 Tryd.underlying27 hi05 A b.length c 2 (by omega) (by omega) hc
  have hfrom := cut_from (P := Tryd.prog) 27 5 .i64 Tryd.underlying27 hi05 1 hsz5 A b.length c 2 (by omega) (by omega)
  have hdr := Kd.C_drop (m := 2) (c := c) hr (by omega) hc
  rw [hxb] at hdr
  obtain ⟨A', hA'⟩ : ∃ A', (if c = (2 : Int).toNat then A else A.map (·.add ((2 : Int).toNat * 1))) = A' := ⟨_, rfl⟩
  rw [hA'] at hfrom
  have HX : Aside0 (Kd.C (Kd.int .u8) w A' xb.length xb) := ⟨by rw [← hA']; exact hdr⟩
  have HTK := Aside0.mk (Kd.C_take hr (show 2 ≤ b.length by omega))
  have HTL : Aside0 ((b.take 2).length = 2) := ⟨by rw [List.length_take]; omega⟩
  have HGET := Aside0.mk hget
  have HRB := Aside0.mk hr
  have HC := Aside0.mk hc
  have HOK := Aside0.mk hok
  have HOX := Aside0.mk hokx
  have HXB := Aside0.mk hxb
  have HLX : Aside0 (xb.length ≤ 2500) := ⟨by omega⟩
  have HLB := Aside0.mk hlen
  rw [show (2 : Int).toNat = 2 from rfl, ← hxl] at hfrom
  rw [show (2 : Int).toNat = 2 from rfl] at hto
  clear hr hc hok hokx hA' hdr hget hxl hn hxb hlen
  go_enter Tryd.func13, Tryd.ntmps13
  go_wp2_with (first
    | (go_at_call 30; (with_reducible refine (rGet_at A c (b.take 2) (n : Int) true _ HTL.out HTK.out (by have := HC.out; omega) HGET.out).mono ?_); rintro e w1 ⟨rfl, hb⟩; have HB1 := Aside0.mk hb; clear hb)
    | ((with_reducible refine gate_dst (N := 24) rfl ?_); refine box_event ?hg (N := 24) ?hd (cs := #[.slice A' xb.length (c - 2), .int .i64 0, .bool false]) (t := 61) ?hr ?_; (case hd => rfl); (case hg => rfl); (case hr => first | (go_simp; done) | (go_simp; rfl)); intro g hg w2 hbox hb; have HB2 := Aside0.mk (below_step HB1.out hb); have HS2 : Aside0 (IsS61 w w2 g xb 0 false) := ⟨⟨A', c - 2, hbox, by have := HB1.out.size; omega, HX.out⟩⟩; clear hb hbox hg))
  clear hto hfrom HTK HTL HGET HB1
  have HLX' : Aside0 (xb.length ≤ 100000) := ⟨by have := HLX.out; omega⟩
  have CT := Aside0.mk (fun p bad r W hI hB hp h => (show Calls Tryd.prog 31 #[.pointer (some ⟨g, 0, none⟩), .int .i64 64] W fun e w' => e = .returned (.int .u64 ((r : Nat × Nat × Bool).1 : Int)) ∧ IsS61 w w' g xb (r.2.1 : Int) r.2.2 ∧ Below w.heap.size w w' ∧ KeepBut W w' g none from rtake.calls g xb p bad 64 r w W hI hB HOX.out HLX'.out hp (by decide) h))
  have CI := Aside0.mk (fun p bad r W hI hB hp h => rint.calls g xb p bad r w W hI hB HOX.out HLX'.out hp h)
  have CX := Aside0.mk (fun p bad r W hI hB hp h => rxor.calls g xb p bad r w W hI hB HOX.out HLX'.out hp h)
  go_loopw [7, 27] (fun v7 i wr => ∃ (k : Nat) (l : List S26) (p : Nat), k ≤ n ∧ i = .int .i64 k ∧ Aside0 (RI b xb l k p ∧ (k = 0 → p = 0)) ∧ Aside0 (Kd.R k26 26 wr w.heap.size (fun q => q ≠ g) v7 l) ∧ Aside0 (IsS61 w wr g xb (p : Int) false) ∧ Aside0 (Below w.heap.size w wr)) (fun _ i _ => n - (intOf i).toNat)
  case atStart => exact ⟨0, [], 0, Nat.zero_le _, rfl, ⟨⟨rfl, fun x hx => absurd hx (by simp), Nat.le_refl _, by omega, fun l0 hg _ => ⟨rfl, rfl⟩⟩, fun _ => rfl⟩, ⟨Kd.R_nil _ _ _ _ _⟩, HS2, HB2⟩
  case round =>
    clear HS2 HB2
    obtain ⟨k, l, p, hk, rfl, HI0, HO, HS, HB⟩ := hrel
    have HI := Aside0.mk HI0.out.1
    have HZ := Aside0.mk HI0.out.2
    clear HI0
    obtain ⟨A7, c7, rfl⟩ := Kd.R_slice HO.out
    have hl20 : l.length ≤ 20000 := by have := HI.out.1; have := HI.out.2.2.1; have := HI.out.2.2.2.1; have := HLX.out; omega
    by_cases hlt : k < n
    · have HLL : Aside0 (l.length = k) := ⟨HI.out.1⟩
      have HP8 := Aside0.mk HI.out.2.2.2.1
      have HLK : Aside0 (∀ l0, Good b l0 → k < l0.length) := ⟨fun l0 hg => by rw [HGN.out l0 hg]; exact hlt⟩
      have gne : Aside0 (wr.heap.size ≠ g) := ⟨by have := HS.out.lt; omega⟩
      have HOA := Aside0.mk (Kd.R_alloc (Kd.R_mono (ok' := fun q => q ≠ g ∧ q ≠ wr.heap.size) (Kd.R_bound HO.out) (fun q hq => ⟨hq.1, by have := hq.2; omega⟩)) (.cells #[.int .i64 0, .int .u64 0] 26))
      have HBA := Aside0.mk (below_alloc HB.out (.cells #[.int .i64 0, .int .u64 0] 26))
      have HSA := Aside0.mk (HS.out.alloc (.cells #[.int .i64 0, .int .u64 0] 26))
      have HXA := Aside0.mk (blk_new wr (.cells #[.int .i64 0, .int .u64 0] 26))
      have HWA : Aside0 (wr.heap.size < (wr.alloc (.cells #[.int .i64 0, .int .u64 0] 26)).heap.size) := ⟨by simp⟩
      have HBS : Aside0 (w.heap.size ≤ wr.heap.size) := ⟨HB.out.size⟩
      clear hl20
      go_upto_block 2 with (fail)
      go_cut [] (fun wx => ∃ (T V : Int) (p' : Nat) (bad' : Bool), Aside0 (StepOK b xb l k ⟨T, V⟩ p' bad') ∧ Aside0 (wx.heap[wr.heap.size]? = some (.cells #[.int .i64 T, .int .u64 V] 26 (0, 0))) ∧ Aside0 (IsS61 w wx g xb (p' : Int) bad') ∧ Aside0 (Kd.R k26 26 wx w.heap.size (fun q => q ≠ g) (.slice A7 l.length c7) l) ∧ Aside0 (Below w.heap.size w wx))
      case first =>
        cases k with
        | zero =>
          obtain rfl : p = 0 := HZ.out rfl
          obtain rfl : l = [] := List.eq_nil_of_length_eq_zero HLL.out
          obtain ⟨a, ha⟩ : ∃ a, rT xb 0 false 64 = a := ⟨_, rfl⟩
          obtain ⟨d, hd⟩ : ∃ d, rT xb a.2.1 a.2.2 64 = d := ⟨_, rfl⟩
          have HST := Aside0.mk (ri_0 HOX.out HLX'.out HXB.out HI.out ha hd rfl)
          have HA := Aside0.mk ha
          have HD := Aside0.mk hd
          have HP2 : Aside0 (a.2.1 ≤ 8 * xb.length) := ⟨ha ▸ (rT_place xb 0 false 64 (by omega)).2.1⟩
          clear ha hd
          go_wp2_with (first
            | (go_at_call 31; (with_reducible refine (CT.out 0 false a _ HSA.out HBA.out HP8.out HA.out).mono ?_); rintro e w3 ⟨rfl, hs, hb, hk⟩; have hx3 := (hk.2 wr.heap.size HWA.out gne.out (by simp)).trans HXA.out; have c30 := (blk_cell hx3 0).trans rfl; have f30 := blk_frozen hx3 0; have HX3 : Aside0 ((w3.setCell ⟨wr.heap.size, 0, none⟩ (.int .i64 (wrap64 (a.1 : Int)))).heap[wr.heap.size]? = some (.cells #[.int .i64 (wrap64 (a.1 : Int)), .int .u64 0] 26 (0, 0))) := ⟨blk_put hx3 0 _ rfl⟩; have HS3 : Aside0 (IsS61 w (w3.setCell ⟨wr.heap.size, 0, none⟩ (.int .i64 (wrap64 (a.1 : Int)))) g xb (a.2.1 : Int) a.2.2) := ⟨hs.far (p := ⟨wr.heap.size, 0, none⟩) gne.out.symm _⟩; have HB3 : Aside0 (Below w.heap.size w (w3.setCell ⟨wr.heap.size, 0, none⟩ (.int .i64 (wrap64 (a.1 : Int))))) := ⟨hb.setCell (p := ⟨wr.heap.size, 0, none⟩) HBS.out _⟩; have HO3 : Aside0 (Kd.R k26 26 (w3.setCell ⟨wr.heap.size, 0, none⟩ (.int .i64 (wrap64 (a.1 : Int)))) w.heap.size (fun q => q ≠ g ∧ q ≠ wr.heap.size) (.slice A7 ([] : List S26).length c7) []) := ⟨Kd.R_far (p := ⟨wr.heap.size, 0, none⟩) (Kd.R_keep HOA.out hk (fun _ q => q.1)) (fun _ q => q.2) _⟩; have HW3 : Aside0 (wr.heap.size < (w3.setCell ⟨wr.heap.size, 0, none⟩ (.int .i64 (wrap64 (a.1 : Int)))).heap.size) := ⟨by have := hk.1; have := HWA.out; simp [World.setCell] at *; omega⟩; clear hs hb hk hx3)
            | (go_at_call 31; (with_reducible refine (CT.out a.2.1 a.2.2 d _ HS3.out HB3.out HP2.out HD.out).mono ?_); rintro e w4 ⟨rfl, hs, hb, hk⟩; have hx4 := (hk.2 wr.heap.size HW3.out gne.out (by simp)).trans HX3.out; have c41 := (blk_cell hx4 1).trans rfl; have f41 := blk_frozen hx4 1; have HX4 := Aside0.mk hx4; have HS4 := Aside0.mk hs; have HB4 := Aside0.mk hb; have HO4 := Aside0.mk (Kd.R_keep HO3.out hk (fun _ q => q.1)); clear hs hb hk hx4))
          go_meet
          exact ⟨wrap64 (a.1 : Int), (d.1 : Int), d.2.1, d.2.2, HST, ⟨blk_put HX4.out 1 _ rfl⟩, ⟨HS4.out.far (p := ⟨wr.heap.size, 1, none⟩) gne.out.symm _⟩, ⟨Kd.R_mono (Kd.R_far (p := ⟨wr.heap.size, 1, none⟩) HO4.out (fun _ q => q.2) _) (fun _ q => q.1)⟩, ⟨HB4.out.setCell (p := ⟨wr.heap.size, 1, none⟩) HBS.out _⟩⟩
        | succ k =>
          obtain ⟨y, hy⟩ : ∃ y, rd_T26 l (k : Int) = y := ⟨_, rfl⟩
          obtain ⟨a, ha⟩ : ∃ a, rHead xb 4 p false = a := ⟨_, rfl⟩
          obtain ⟨d, hd⟩ : ∃ d, rX xb a.2.1 a.2.2 = d := ⟨_, rfl⟩
          have hst := ri_succ HOX.out HLX'.out HXB.out HI.out hy ha hd
          obtain ⟨Tn, hTn⟩ : ∃ Tn, wrap64 (y.f0 + wrap64 (stepP l (k + 1) + a.1)) = Tn := ⟨_, rfl⟩
          rw [hTn] at hst
          have HST := Aside0.mk hst
          have HA := Aside0.mk ha
          have HD := Aside0.mk hd
          have HY := Aside0.mk hy
          have HP2 : Aside0 (a.2.1 ≤ 8 * xb.length) := ⟨ha ▸ (rHead_place xb 4 p false HP8.out).2.1⟩
          have hll : l.length = k + 1 := HLL.out
          have HCK : Aside0 (∀ (Q : Prop) (W : World), KeepBut W W g none → Q → Q) := ⟨fun _ _ _ h => h⟩
          clear HCK
          obtain ⟨ad, e7, y0, y1⟩ := at_T26 (Kd.R_reads' HOA.out).2.2 (k : Int) (by omega) (by omega)
          subst e7
          rw [Int.toNat_natCast, hy] at y0 y1
          obtain ⟨inn, hown⟩ := Kd.R_own HOA.out
          have hn1 : ad.block ≠ g := own_blk hown (Kd.R_away HOA.out (fun q hq => hq.1))
          have hn2 : ad.block ≠ wr.heap.size := own_blk hown (Kd.R_away HOA.out (fun q hq => hq.2))
          have HNA := Aside0.mk (And.intro hn1 hn2)
          clear hown hn1 hn2 hy ha hd hst
          cases k with
          | zero =>
            rw [show ((0 + 1 : Nat) : Int) = 1 from rfl] at *
            have HTN : Aside0 (Tn = wrap64 (y.f0 + a.1)) := ⟨by rw [← hTn, show stepP l (0 + 1) = 0 from rfl, wrap_add', Int.zero_add]⟩
            have hs0 : (wr.alloc (.cells #[.int .i64 0, .int .u64 0] 26)).cell? ad = some (.int .i64 y.f0) := by simpa [Addr.add] using y0
            have HN1 : Aside0 (ad.block ≠ g ∧ ad.block ≠ wr.heap.size) := HNA
            have HCK : Aside0 (∀ (W W' : World), KeepBut W W' g none → W.cell? ad = some (.int .i64 y.f0) → W'.cell? ad = some (.int .i64 y.f0)) := ⟨fun W W' hk h => keep_cell hk h HNA.out.1⟩
            have HCF : Aside0 (∀ (W : World) (q : Addr), q.block = wr.heap.size → ∀ v, W.cell? ad = some (.int .i64 y.f0) → (W.setCell q v).cell? ad = some (.int .i64 y.f0)) := ⟨fun W q hq v h => (cell_far (by rw [hq]; exact HNA.out.2) v).trans h⟩
            have b3 : (0 : Int) < (l.length : Int) := by omega
            have b4 : 0 < l.length := by omega
            clear y0 y1 hTn hll
            go_wp2_with fail
            go_cut [] (fun wx => Aside0 (wx.heap[wr.heap.size]? = some (.cells #[.int .i64 Tn, .int .u64 0] 26 (0, 0))) ∧ Aside0 (IsS61 w wx g xb (a.2.1 : Int) a.2.2) ∧ Aside0 (Kd.R k26 26 wx w.heap.size (fun q => q ≠ g ∧ q ≠ wr.heap.size) (.slice (some ad) l.length c7) l) ∧ Aside0 (Below w.heap.size w wx) ∧ Aside0 (wr.heap.size < wx.heap.size))
            case first =>
              go_region_held3 (fun W => W.cell? ad = some (.int .i64 y.f0)) (first | exact hs0 | exact hs1 | exact hs2 _)
                (first | (go_at_call 32; (refine (CI.out p false a _ ?s121 ?s122 HP8.out HA.out).mono ?_); (case s121 => exact HSA.out.drew); (case s122 => exact below_drew1 HBA.out); rintro e w3 ⟨rfl, hs, hb, hk⟩; have hs1 := HCK.out _ w3 hk hs0; have hs2 := (fun v => HCF.out w3 ⟨wr.heap.size, 0, none⟩ rfl v hs1); have hx3 := (hk.2 wr.heap.size HWA.out gne.out (by simp)).trans HXA.out; have c30 := (blk_cell hx3 0).trans rfl; have f30 := blk_frozen hx3 0; have HX3 := Aside0.mk hx3; have HS3 := Aside0.mk hs; have HB3 := Aside0.mk hb; have HK3 := Aside0.mk hk; clear hx3 hs hb hk))
              all_goals
                go_wp2_with fail
                go_meet
                refine ⟨⟨?_⟩, ⟨?_⟩, ⟨?_⟩, ⟨?_⟩, ⟨?_⟩⟩
                · rw [HTN.out]
                  simp only [i64_w]
                  exact blk_put HX3.out 0 _ rfl
                · exact HS3.out.far (p := ⟨wr.heap.size, 0, none⟩) gne.out.symm _
                · exact Kd.R_far (p := ⟨wr.heap.size, 0, none⟩) (Kd.R_keep (Kd.R_drew HOA.out) HK3.out (fun _ q => q.1)) (fun _ q => q.2) _
                · exact HB3.out.setCell (p := ⟨wr.heap.size, 0, none⟩) HBS.out _
                · exact Nat.lt_of_lt_of_le (blk_lt HX3.out) (Nat.le_of_eq (by simp [World.setCell]))
            case rest =>
              obtain ⟨HX5, HS5, HO5, HB5, HW5⟩ := hcut
              obtain ⟨ad5, e5, _, t0⟩ := at_T26 (Kd.R_reads' HO5.out).2.2 ((0 : Nat) : Int) (by omega) (by omega)
              obtain rfl := Option.some.inj e5
              clear e5 hs0
              have t1 : wc.cell? ⟨ad.block, ad.off + 1, none⟩ = some (.int .u64 y.f1) := by rw [show ((0 : Nat) : Int) = 0 from rfl] at t0; have h_ := HY.out; rw [show ((0 : Nat) : Int) = 0 from rfl] at h_; rw [h_] at t0; simpa [Addr.add] using t0
              clear t0
              go_wp2_with fail
              go_region_held3 (fun W => W.cell? ⟨ad.block, ad.off + 1, none⟩ = some (.int .u64 y.f1)) (first | exact t1 | exact t2 | exact t3 _)
                (first | (go_at_call 33; (refine (CX.out a.2.1 a.2.2 d _ ?s123 ?s124 HP2.out HD.out).mono ?_); (case s123 => exact HS5.out.drew); (case s124 => exact below_drew1 HB5.out); rintro e w6 ⟨rfl, hs, hb, hk⟩; have t2 : w6.cell? ⟨ad.block, ad.off + 1, none⟩ = some (.int .u64 y.f1) := (keep_cell hk t1 HN1.out.1); have t3 := (fun v => (cell_far (p := ⟨wr.heap.size, 1, none⟩) (W := w6) (a := ⟨ad.block, ad.off + 1, none⟩) HN1.out.2 v).trans t2); have hx6 := (hk.2 wr.heap.size HW5.out gne.out (by simp)).trans HX5.out; have c61 := (blk_cell hx6 1).trans rfl; have f61 := blk_frozen hx6 1; have HX6 := Aside0.mk hx6; have HS6 := Aside0.mk hs; have HB6 := Aside0.mk hb; have HK6 := Aside0.mk hk; clear hx6 hs hb hk))
              all_goals
                go_wp2_with fail
                go_meet
                exact ⟨Tn, Go.bits .xor .u64 y.f1 d.1, d.2.1, d.2.2, HST, ⟨blk_put HX6.out 1 _ rfl⟩, ⟨HS6.out.far (p := ⟨wr.heap.size, 1, none⟩) gne.out.symm _⟩, ⟨Kd.R_mono (Kd.R_far (p := ⟨wr.heap.size, 1, none⟩) (Kd.R_keep (Kd.R_drew HO5.out) HK6.out (fun _ q => q.1)) (fun _ q => q.2) _) (fun _ q => q.1)⟩, ⟨HB6.out.setCell (p := ⟨wr.heap.size, 1, none⟩) HBS.out _⟩⟩
          | succ k =>
            obtain ⟨z, hz⟩ : ∃ z, rd_T26 l (k : Int) = z := ⟨_, rfl⟩
            obtain ⟨ad', e8, z0, -⟩ := at_T26 (Kd.R_reads' HOA.out).2.2 (k : Int) (by omega) (by omega)
            obtain rfl := Option.some.inj e8
            rw [Int.toNat_natCast, hz] at z0
            have HSP : Aside0 (stepP l (k + 1 + 1) = wrap64 (y.f0 - z.f0)) := ⟨by rw [← HY.out, ← hz]; rfl⟩
            have HTN : Aside0 (Tn = wrap64 (wrap64 (y.f0 + wrap64 (y.f0 - z.f0)) + a.1)) := ⟨by rw [← hTn, HSP.out, wrap_add', wrap_add, Int.add_assoc]⟩
            have hs0 : (wr.alloc (.cells #[.int .i64 0, .int .u64 0] 26)).cell? (ad.add ((k + 1) * 2)) = some (.int .i64 y.f0) ∧ (wr.alloc (.cells #[.int .i64 0, .int .u64 0] 26)).cell? (ad.add (k * 2)) = some (.int .i64 z.f0) := ⟨y0, z0⟩
            have HN1 : Aside0 ((ad.add ((k + 1) * 2)).block ≠ g ∧ (ad.add ((k + 1) * 2)).block ≠ wr.heap.size) := ⟨by rw [add_block]; exact HNA.out⟩
            have HN2 : Aside0 ((ad.add (k * 2)).block ≠ g ∧ (ad.add (k * 2)).block ≠ wr.heap.size) := ⟨by rw [add_block]; exact HNA.out⟩
            have HCK : Aside0 (∀ (W W' : World), KeepBut W W' g none → (W.cell? (ad.add ((k + 1) * 2)) = some (.int .i64 y.f0) ∧ W.cell? (ad.add (k * 2)) = some (.int .i64 z.f0)) → (W'.cell? (ad.add ((k + 1) * 2)) = some (.int .i64 y.f0) ∧ W'.cell? (ad.add (k * 2)) = some (.int .i64 z.f0))) := ⟨fun W W' hk h => ⟨keep_cell hk h.1 HN1.out.1, keep_cell hk h.2 HN2.out.1⟩⟩
            have HCF : Aside0 (∀ (W : World) (q : Addr), q.block = wr.heap.size → ∀ v, (W.cell? (ad.add ((k + 1) * 2)) = some (.int .i64 y.f0) ∧ W.cell? (ad.add (k * 2)) = some (.int .i64 z.f0)) → ((W.setCell q v).cell? (ad.add ((k + 1) * 2)) = some (.int .i64 y.f0) ∧ (W.setCell q v).cell? (ad.add (k * 2)) = some (.int .i64 z.f0))) := ⟨fun W q hq v h => ⟨(cell_far (by rw [hq]; exact HN1.out.2) v).trans h.1, (cell_far (by rw [hq]; exact HN2.out.2) v).trans h.2⟩⟩
            rw [show ((k + 1 + 1 : Nat) : Int) = (k : Int) + 2 from by omega] at *
            have b0 : (0 : Int) ≤ (k : Int) := by omega
            have b1 : (k : Int) < (l.length : Int) := by omega
            have b2 : (0 : Int) ≤ (k : Int) + 1 := by omega
            have b3 : (k : Int) + 1 < (l.length : Int) := by omega
            have hwk : IntKind.i64.wrap (k : Int) = (k : Int) := (i64_w _).trans (w64 (by omega) (by omega))
            have hwk1 : IntKind.i64.wrap ((k : Int) + 1) = (k : Int) + 1 := (i64_w _).trans (w64 (by omega) (by omega))
            have hwk2 : IntKind.i64.wrap ((k : Int) + 2 - 1) = (k : Int) + 1 := (i64_w _).trans ((w64 (by omega) (by omega)).trans (by omega))
            have hwk3 : IntKind.i64.wrap ((k : Int) + 2 - 2) = (k : Int) := (i64_w _).trans ((w64 (by omega) (by omega)).trans (by omega))
            have hn1 : ((k : Int) + 1).toNat = k + 1 := by omega
            have d1 : ((k : Int) + 2 == 0) = false := beq_eq_false_iff_ne.2 (by omega)
            have d2 : ((k : Int) + 2 == 1) = false := beq_eq_false_iff_ne.2 (by omega)
            clear y0 y1 z0 hz e8 hTn hll
            go_wp2_with fail
            go_cut [] (fun wx => Aside0 (wx.heap[wr.heap.size]? = some (.cells #[.int .i64 Tn, .int .u64 0] 26 (0, 0))) ∧ Aside0 (IsS61 w wx g xb (a.2.1 : Int) a.2.2) ∧ Aside0 (Kd.R k26 26 wx w.heap.size (fun q => q ≠ g ∧ q ≠ wr.heap.size) (.slice (some ad) l.length c7) l) ∧ Aside0 (Below w.heap.size w wx) ∧ Aside0 (wr.heap.size < wx.heap.size))
            case first =>
              go_region_held3 (fun W => W.cell? (ad.add ((k + 1) * 2)) = some (.int .i64 y.f0) ∧ W.cell? (ad.add (k * 2)) = some (.int .i64 z.f0)) (first | exact hs0 | exact hs1 | exact hs2 _)
                (first | (go_at_call 32; (refine (CI.out p false a _ ?u121 ?u122 HP8.out HA.out).mono ?_); (case u121 => exact HSA.out.drew); (case u122 => exact below_drew1 HBA.out); rintro e w3 ⟨rfl, hs, hb, hk⟩; have hs1 := HCK.out _ w3 hk hs0; have hs2 := (fun v => HCF.out w3 ⟨wr.heap.size, 0, none⟩ rfl v hs1); have hx3 := (hk.2 wr.heap.size HWA.out gne.out (by simp)).trans HXA.out; have c30 := (blk_cell hx3 0).trans rfl; have f30 := blk_frozen hx3 0; have HX3 := Aside0.mk hx3; have HS3 := Aside0.mk hs; have HB3 := Aside0.mk hb; have HK3 := Aside0.mk hk; clear hx3 hs hb hk))
              all_goals
                go_wp2_with fail
                go_meet
                refine ⟨⟨?_⟩, ⟨?_⟩, ⟨?_⟩, ⟨?_⟩, ⟨?_⟩⟩
                · rw [HTN.out]
                  simp only [i64_w]
                  exact blk_put HX3.out 0 _ rfl
                · exact HS3.out.far (p := ⟨wr.heap.size, 0, none⟩) gne.out.symm _
                · exact Kd.R_far (p := ⟨wr.heap.size, 0, none⟩) (Kd.R_keep (Kd.R_drew HOA.out) HK3.out (fun _ q => q.1)) (fun _ q => q.2) _
                · exact HB3.out.setCell (p := ⟨wr.heap.size, 0, none⟩) HBS.out _
                · exact Nat.lt_of_lt_of_le (blk_lt HX3.out) (Nat.le_of_eq (by simp [World.setCell]))
            case rest =>
              obtain ⟨HX5, HS5, HO5, HB5, HW5⟩ := hcut
              obtain ⟨ad5, e5, _, t0⟩ := at_T26 (Kd.R_reads' HO5.out).2.2 ((k + 1 : Nat) : Int) (by omega) (by omega)
              obtain rfl := Option.some.inj e5
              clear e5 hs0
              have t1 : wc.cell? ⟨(ad.add ((k + 1) * 2)).block, (ad.add ((k + 1) * 2)).off + 1, none⟩ = some (.int .u64 y.f1) := by have h_ := HY.out; rw [h_, Int.toNat_natCast] at t0; exact t0
              clear t0
              go_wp2_with fail
              go_region_held3 (fun W => W.cell? ⟨(ad.add ((k + 1) * 2)).block, (ad.add ((k + 1) * 2)).off + 1, none⟩ = some (.int .u64 y.f1)) (first | exact t1 | exact t2 | exact t3 _)
                (first | (go_at_call 33; (refine (CX.out a.2.1 a.2.2 d _ ?u123 ?u124 HP2.out HD.out).mono ?_); (case u123 => exact HS5.out.drew); (case u124 => exact below_drew1 HB5.out); rintro e w6 ⟨rfl, hs, hb, hk⟩; have t2 : w6.cell? ⟨(ad.add ((k + 1) * 2)).block, (ad.add ((k + 1) * 2)).off + 1, none⟩ = some (.int .u64 y.f1) := (keep_cell hk t1 HN1.out.1); have t3 := (fun v => (cell_far (p := ⟨wr.heap.size, 1, none⟩) (W := w6) (a := ⟨(ad.add ((k + 1) * 2)).block, (ad.add ((k + 1) * 2)).off + 1, none⟩) HN1.out.2 v).trans t2); have hx6 := (hk.2 wr.heap.size HW5.out gne.out (by simp)).trans HX5.out; have c61 := (blk_cell hx6 1).trans rfl; have f61 := blk_frozen hx6 1; have HX6 := Aside0.mk hx6; have HS6 := Aside0.mk hs; have HB6 := Aside0.mk hb; have HK6 := Aside0.mk hk; clear hx6 hs hb hk))
              all_goals
                go_wp2_with fail
                go_meet
                exact ⟨Tn, Go.bits .xor .u64 y.f1 d.1, d.2.1, d.2.2, HST, ⟨blk_put HX6.out 1 _ rfl⟩, ⟨HS6.out.far (p := ⟨wr.heap.size, 1, none⟩) gne.out.symm _⟩, ⟨Kd.R_mono (Kd.R_far (p := ⟨wr.heap.size, 1, none⟩) (Kd.R_keep (Kd.R_drew HO5.out) HK6.out (fun _ q => q.1)) (fun _ q => q.2) _) (fun _ q => q.1)⟩, ⟨HB6.out.setCell (p := ⟨wr.heap.size, 1, none⟩) HBS.out _⟩⟩
      case rest =>
        obtain ⟨T, V, p', bad', HST, HXB2, HS2, HO2, HB2⟩ := hcut
        obtain ⟨A9, c9, hs9, hs9g, -⟩ := HS2.out
        have s92 := (blk_cell hs9 2).trans rfl
        have x20 := (blk_cell HXB2.out 0).trans rfl
        have x21 := (blk_cell HXB2.out 1).trans rfl
        clear hs9 hs9g
        cases bad' with
        | true =>
          have HAN := Aside0.mk (ans_bad HST.out HLK.out)
          go_wp2_with fail
          refine bodyPost_ret (results_tmp2 rfl _ _ _) rfl ?_
          exact ⟨_, [], 5, rfl, HAN.out, Kd.R_nil _ _ _ _ _, HB2.out⟩
        | false =>
          have hl20 : l.length ≤ 20000 := by have := HLL.out; have := HP8.out; have := HI.out.2.2.1; have := HLX.out; omega
          have HL20 := Aside0.mk hl20
          clear hl20
          go_wp2_with ((with_reducible refine gate_builtin (b := .append) (xs := #[.tmp 97, .tmp 99]) rfl ?_); at_builtin; refine Kd.R_append k26 (w0 := w) w.heap.size rfl (.tmp 97) (.tmp 99) 24 26 (.agg #[.int .i64 0, .int .u64 0]) 16 rfl Tryd.underlying24 info26 rfl (by decide) (by omega) (.slice A7 l.length c7) l (⟨T, V⟩ : S26) [.int .i64 T, .int .u64 V] (fun q => q ≠ g) (fun _ => False) rfl ?hx ?aP (fun _ hk => hk.elim) ?aF HO2.out HB2.out HB2.out.size ?aL ?_; (case hx => first | rfl | (go_simp; done) | (show Value.slice _ 1 1 = Value.slice _ 1 1; simp; done)); (case aP => exact k26_mkM _ _ _ (⟨T, V⟩ : S26)); (case aF => exact fun q hq e => by have := HS2.out.lt; omega); (case aL => have := HL20.out; omega); intro v9 w9 ho hb hg9 hat; have HO9 := Aside0.mk ho; have HB9 := Aside0.mk hb; have HS9 := Aside0.mk (HS2.out.grown hg9 (HS2.out.own_ne HO2.out (by decide))); clear ho hb hg9 hat)
          go_roundw
          case rel => exact ⟨k + 1, l ++ [(⟨T, V⟩ : S26)], p', by omega, by go_num, ⟨⟨HST.out.2.1 rfl, fun h => absurd h (by omega)⟩⟩, HO9, HS9, HB9⟩
          case measure => simp [intOf] <;> omega
    · obtain rfl : k = n := by omega
      have HIO : Aside0 (∀ x ∈ l, okS x) := ⟨HI.out.2.1⟩
      obtain ⟨eb, ee, henc⟩ : ∃ eb ee, encF l = (eb, ee) := ⟨_, _, rfl⟩
      have HENC := Aside0.mk henc
      have HEOK : Aside0 (okB eb = true) := ⟨by have := encF_okB l hl20 HI.out.2.1; rw [henc] at this; exact this⟩
      have HL20 := Aside0.mk hl20
      have HGE : Aside0 (∀ l0, Good b l0 → l = l0) := ⟨fun l0 hg => by
        have h1 := (HI.out.2.2.2.2 l0 hg (by rw [HGN.out l0 hg]; exact Nat.le_refl _)).1
        rw [h1, ← HGN.out l0 hg, List.take_length]⟩
      have HBAD : Aside0 (¬ encF l = (b, 0) → Ans b [] 5) := ⟨fun hne => ⟨.inr ⟨rfl, rfl⟩, fun l0 hg => by
        have h1 := HGE.out l0 hg
        refine absurd ?_ hne
        rw [h1, encF, if_pos hg.2.1, hg.2.2.2]⟩⟩
      clear henc hl20
      by_cases hee : ee = 0
      · subst hee
        have hee0 : ((0 : Int) != 0) = false := rfl
        cases heq : decide (eb = b) with
        | false =>
          have HEQ := Aside0.mk heq
          go_wp2_with (first
            | (go_at_call 18; (with_reducible refine (rEnc_at A7 c7 l _ eb 0 rfl (Kd.R_reads' HO.out).2.2 (Kd.R_reads' HO.out).2.1 HIO.out HL20.out HENC.out).mono ?_); rintro e w6 ⟨v6, rfl, hr6, hb⟩; obtain ⟨A6, c6, rfl⟩ := Kd.R_slice hr6; have HB6 := Aside0.mk (below_step HB.out hb); have hcv3 := Kd.C_string (P := Tryd.prog) (A := A6) (c := c6) Tryd.underlying27 Tryd.underlying5 Tryd.underlying9 (Kd.R_reads' hr6).2.2; have hcv4 := Kd.C_string (P := Tryd.prog) (A := A) (c := c) Tryd.underlying27 Tryd.underlying5 Tryd.underlying9 (Kd.C_below HRB.out HB6.out); have hse := strOfNums_inj HEOK.out HOK.out; rw [HEQ.out] at hse; clear hr6 hb))
          refine bodyPost_ret (results_tmp2 rfl _ _ _) rfl ?_
          exact ⟨_, [], 5, rfl, HBAD.out (by rw [HENC.out]; intro q; exact of_decide_eq_false HEQ.out (congrArg Prod.fst q)), Kd.R_nil _ _ _ _ _, HB6.out⟩
        | true =>
          have HEQ := Aside0.mk heq
          go_wp2_with (first
            | (go_at_call 18; (with_reducible refine (rEnc_at A7 c7 l _ eb 0 rfl (Kd.R_reads' HO.out).2.2 (Kd.R_reads' HO.out).2.1 HIO.out HL20.out HENC.out).mono ?_); rintro e w6 ⟨v6, rfl, hr6, hb⟩; obtain ⟨A6, c6, rfl⟩ := Kd.R_slice hr6; have HB6 := Aside0.mk (below_step HB.out hb); have HO6 := Aside0.mk (Kd.R_below HO.out hb); have hcv3 := Kd.C_string (P := Tryd.prog) (A := A6) (c := c6) Tryd.underlying27 Tryd.underlying5 Tryd.underlying9 (Kd.R_reads' hr6).2.2; have hcv4 := Kd.C_string (P := Tryd.prog) (A := A) (c := c) Tryd.underlying27 Tryd.underlying5 Tryd.underlying9 (Kd.C_below HRB.out HB6.out); have hse := strOfNums_inj HEOK.out HOK.out; rw [HEQ.out] at hse; clear hr6 hb))
          refine bodyPost_ret (results_tmp2 rfl _ _ _) rfl ?_
          exact ⟨_, l, 0, rfl, ⟨.inl ⟨rfl, by rw [HENC.out]; exact congrArg (fun z => (z, (0 : Int))) (of_decide_eq_true HEQ.out), HIO.out, HL20.out⟩, fun l0 hg => ⟨rfl, HGE.out l0 hg⟩⟩, Kd.R_mono HO6.out (fun _ _ => trivial), HB6.out⟩
      · have hee0 : (ee != 0) = true := bne_iff_ne.2 hee
        have HEE := Aside0.mk hee
        clear hee
        go_wp2_with (first
          | (go_at_call 18; (with_reducible refine (rEnc_at A7 c7 l _ eb ee rfl (Kd.R_reads' HO.out).2.2 (Kd.R_reads' HO.out).2.1 HIO.out HL20.out HENC.out).mono ?_); rintro e w6 ⟨v6, rfl, hr6, hb⟩; obtain ⟨A6, c6, rfl⟩ := Kd.R_slice hr6; have HB6 := Aside0.mk (below_step HB.out hb); clear hr6 hb))
        refine bodyPost_ret (results_tmp2 rfl _ _ _) rfl ?_
        exact ⟨_, [], 5, rfl, HBAD.out (by rw [HENC.out]; intro q; exact HEE.out (congrArg Prod.snd q)), Kd.R_nil _ _ _ _ _, HB6.out⟩
theorem rDecode.calls_at {n : Nat} (A : Option Addr) (c : Nat) (b : List Int) (w : World) (rl : List S26) (re : Int) (hn : b.length = n) (hr : Kd.C (Kd.int .u8) w A b.length b) (hc : n ≤ c) (hok : okB b = true) (hlen : n ≤ 2500) (he : decF b = (rl, re)) :
    Calls Tryd.prog 13 #[.slice A n c] w fun e w' => ∃ v : Value, e = .returned (.tuple #[v, .int .i64 re]) ∧ Kd.R k26 26 w' w.heap.size (fun _ => True) v rl ∧ Below w.heap.size w w' := by
  subst hn
  refine (rDecode.calls0 A c b w hr hc hok hlen).mono ?_
  rintro e w' ⟨v, l, ee, rfl, ha, hr, hb⟩
  have h1 := ans_dec ha hlen
  rw [he] at h1
  obtain ⟨rfl, rfl⟩ := Prod.mk.inj h1
  exact ⟨v, rfl, hr, hb⟩
end Go.Proofs.YtpeekkpdglfbbaaDoor.PA

/- Lemmas and contracts that the law ChunkJoins leans on (packed by a program of this session out of its texts and the print's words). -/
import Derived.Test.YtbgmnmjokdfmlaaDoorZJ2
import Derived.Test.YtbgmnmjokdfmlaaDoorZJ4
import Derived.Test.YtbgmnmjokdfmlaaDoorZJ7
import Derived.Test.YtbgmnmjokdfmlaaDoorZJ3
import Derived.Deep.Slices
import Derived.Deep.Fields
import Derived.ChangeSame
import Derived.OpenShut
import Derived.RowKit
import Derived.Test.YtbgmnmjokdfmlaaDoorZJ6
import Derived.SizedLaws
import Derived.ChangeSlices
namespace Go.Proofs.YtbgmnmjokdfmlaaDoor.PA
open Go.RowKit Go.Proofs.YtbgmnmjokdfmlaaDoorW.PrintWords Go.Proofs.YtbgmnmjokdfmlaaDoorW.PrintLast Go.Proofs.YtbgmnmjokdfmlaaDoorW.PrintMore
attribute [local go_sem] max2_int min2_int max_two min_two max_three min_three max_four min_four   -- for this text's walks alone
set_option linter.unusedVariables false
set_option linter.unusedSimpArgs false
def slices_Equal_byte_byte.l0 : Nat → List Int → List Int → Int → Int → Option (Bool)
  | 0, _, _, _, _ => none
  | k + 1, x0, x1, x12, x13 => if x13 < x12 then (if 0 ≤ x13 then (if x13 < (x0.length : Int) then (if x13 < (x1.length : Int) then (if (rd x0 x13) = (rd x1 x13) then (slices_Equal_byte_byte.l0 k x0 x1 x12 (wrap64 (x13 + 1))) else (some false)) else (none)) else (none)) else (none)) else (some true)
def slices_Equal_byte_byte.f (k : Nat) (l0 : List Int) (l1 : List Int) : Option (Bool) := if (l0.length : Int) = (l1.length : Int) then (slices_Equal_byte_byte.l0 k l0 l1 (l0.length : Int) 0) else (some false)
theorem slices_Equal_byte_byte.mono_l : ∀ k, (∀ y0 y1 y2 y3, LeO (slices_Equal_byte_byte.l0 k y0 y1 y2 y3) (slices_Equal_byte_byte.l0 (k + 1) y0 y1 y2 y3))
  | 0 => fun _ _ _ _ r h => by simp [slices_Equal_byte_byte.l0] at h
  | k + 1 => by
    have ih0 := slices_Equal_byte_byte.mono_l k
    · intro y0 y1 y2 y3
      unfold slices_Equal_byte_byte.l0
      repeat' first
      | (with_reducible exact ih0 _ _ _ _)
      | (with_reducible exact LeO.refl _)
      | (with_reducible exact LeO.none _)
      | (with_reducible refine LeO.ite ?_ ?_)
      | (with_reducible refine LeO.bind ?_ (fun _ => ?_))
      | exact ih0 _ _ _ _
      | exact LeO.none _
      | refine LeO.ite ?_ ?_
      | refine LeO.bind ?_ (fun _ => ?_)
theorem slices_Equal_byte_byte.mono : ∀ a0 a1 k, LeO (slices_Equal_byte_byte.f k a0 a1) (slices_Equal_byte_byte.f (k + 1) a0 a1) := by
  intro a0 a1 k
  have ih0 := slices_Equal_byte_byte.mono_l k
  unfold slices_Equal_byte_byte.f
  repeat' first
      | (with_reducible exact ih0 _ _ _ _)
      | (with_reducible exact LeO.refl _)
      | (with_reducible exact LeO.none _)
      | (with_reducible refine LeO.ite ?_ ?_)
      | (with_reducible refine LeO.bind ?_ (fun _ => ?_))
      | exact ih0 _ _ _ _
      | exact LeO.none _
      | refine LeO.ite ?_ ?_
      | refine LeO.bind ?_ (fun _ => ?_)
set_option maxHeartbeats 8000000 in
set_option maxRecDepth 100000 in
theorem slices_Equal_byte_byte.calls (k : Nat) (A0 : Option Addr) (c0 : Nat) (l0 : List Int) (A1 : Option Addr) (c1 : Nat) (l1 : List Int) (r : Bool) (w : World) (hr0 : Kd.C (Kd.int .u8) w A0 l0.length l0) (hc0 : l0.length ≤ c0) (hr1 : Kd.C (Kd.int .u8) w A1 l1.length l1) (hc1 : l1.length ≤ c1) (h : slices_Equal_byte_byte.f k l0 l1 = some r) :
    Calls Tryd.prog 16 #[.slice A0 l0.length c0, .slice A1 l1.length c1] w fun e w' => e = .returned (.bool r) ∧ Drawn0 w w' := by
  have HR0 := Aside0.mk hr0
  have HC0 := Aside0.mk hc0
  clear hr0 hc0
  have HR1 := Aside0.mk hr1
  have HC1 := Aside0.mk hc1
  clear hr1 hc1
  have H : (if (l0.length : Int) = (l1.length : Int) then (slices_Equal_byte_byte.l0 k l0 l1 (l0.length : Int) 0) else (some false)) = some r := h
  clear h
  by_cases c3 : (l0.length : Int) = (l1.length : Int)
  · rw [if_pos c3] at H
    have c3b0 : ((l0.length : Int) == (l1.length : Int)) = true := beq_iff_eq.mpr c3
    have c3b1 : ((l0.length : Int) != (l1.length : Int)) = false := bne_eq_false_iff_eq.mpr c3
    have c3b2 : (l0.length == l1.length) = true := by first | simpa using c3 | (simp at c3 ⊢; omega)
    clear c3
    have H' := Aside0.mk H
    clear H
    go_enter Tryd.func16, Tryd.ntmps16
    go_wp2
    repeat (go_quiet (fail); try go_wp2)
    go_loopg [13] k (fun kq v13 w' => ∃ (x13_1 : Int), v13 = .int .i64 x13_1 ∧ Aside0 (slices_Equal_byte_byte.l0 kq l0 l1 (l0.length : Int) x13_1 = some r) ∧ Aside0 (kq ≤ k) ∧ Drawn0 w w')
    case atStart => exact ⟨(0), (by first | rfl | (simp; done) | (simp [*]; done)), H', ⟨Nat.le_refl _⟩, by repeat (first | exact Drawn0.refl _ | apply Drawn0.step)⟩
    case round =>
      clear H'
      try clear c1
      try clear p2
      try clear c3
      try clear c3b0
      try clear c3b1
      try clear c3b2
      obtain ⟨x13_1, rfl, HA, HK1, ⟨m1, rfl⟩⟩ := hrel
      cases gk with
      | zero => exact absurd HA.out (by simp [slices_Equal_byte_byte.l0])
      | succ k1 =>
        have H := HA.out
        clear HA
        simp only [slices_Equal_byte_byte.l0] at H
        by_cases c4 : x13_1 < (l0.length : Int)
        · rw [if_pos c4] at H
          have c4b0 : decide (x13_1 < (l0.length : Int)) = true := decide_eq_true c4
          clear c4
          by_cases c5 : 0 ≤ x13_1
          · rw [if_pos c5] at H
            have c5b0 : decide (0 ≤ x13_1) = true := decide_eq_true c5
            clear c5
            by_cases c6 : x13_1 < (l0.length : Int)
            · rw [if_pos c6] at H
              have c6b0 : decide (x13_1 < (l0.length : Int)) = true := decide_eq_true c6
              clear c6
              by_cases c7 : x13_1 < (l1.length : Int)
              · rw [if_pos c7] at H
                have c7b0 : decide (x13_1 < (l1.length : Int)) = true := decide_eq_true c7
                clear c7
                by_cases c8 : (rd l0 x13_1) = (rd l1 x13_1)
                · rw [if_pos c8] at H
                  have c8b0 : ((rd l0 x13_1) == (rd l1 x13_1)) = true := beq_iff_eq.mpr c8
                  have c8b1 : ((rd l0 x13_1) != (rd l1 x13_1)) = false := bne_eq_false_iff_eq.mpr c8
                  clear c8
                  have H' := Aside0.mk H
                  clear H
                  have p240 : 0 ≤ (x13_1 : Int) := of_decide_eq_true (by first | (with_reducible assumption) | assumption)
                  have q240 : x13_1 < (l0.length : Int) := of_decide_eq_true (by first | (with_reducible assumption) | assumption)
                  obtain ⟨ad240, e240, hx240_0⟩ := Kd.at_int HR0.out x13_1 p240 q240
                  cases e240
                  replace p240 := eq_true p240
                  replace q240 := eq_true q240
                  have p241 : 0 ≤ (x13_1 : Int) := of_decide_eq_true (by first | (with_reducible assumption) | assumption)
                  have q241 : x13_1 < (l1.length : Int) := of_decide_eq_true (by first | (with_reducible assumption) | assumption)
                  obtain ⟨ad241, e241, hx241_0⟩ := Kd.at_int HR1.out x13_1 p241 q241
                  cases e241
                  replace p241 := eq_true p241
                  replace q241 := eq_true q241
                  go_wp2
                  repeat (go_quiet (fail); try go_wp2)
                  go_roundg k1
                  case measure => have := HK1.out; omega
                  case rel => exact ⟨(wrap64 (x13_1 + 1)), (by first | rfl | (simp; done) | (simp [*]; done)), H', ⟨by have := HK1.out; omega⟩, by repeat (first | exact Drawn0.refl _ | apply Drawn0.step)⟩
                · rw [if_neg c8] at H
                  have c8b0 : ((rd l0 x13_1) == (rd l1 x13_1)) = false := beq_eq_false_iff_ne.mpr c8
                  have c8b1 : ((rd l0 x13_1) != (rd l1 x13_1)) = true := bne_iff_ne.mpr c8
                  obtain rfl := Option.some.inj H
                  have p240 : 0 ≤ (x13_1 : Int) := of_decide_eq_true (by first | (with_reducible assumption) | assumption)
                  have q240 : x13_1 < (l0.length : Int) := of_decide_eq_true (by first | (with_reducible assumption) | assumption)
                  obtain ⟨ad240, e240, hx240_0⟩ := Kd.at_int HR0.out x13_1 p240 q240
                  cases e240
                  replace p240 := eq_true p240
                  replace q240 := eq_true q240
                  have p241 : 0 ≤ (x13_1 : Int) := of_decide_eq_true (by first | (with_reducible assumption) | assumption)
                  have q241 : x13_1 < (l1.length : Int) := of_decide_eq_true (by first | (with_reducible assumption) | assumption)
                  obtain ⟨ad241, e241, hx241_0⟩ := Kd.at_int HR1.out x13_1 p241 q241
                  cases e241
                  replace p241 := eq_true p241
                  replace q241 := eq_true q241
                  go_wp2
                  repeat (go_quiet (fail); try go_wp2)
                  go_ret
                  exact ⟨by first | rfl | (simp; done) | (simp [*]; done) | (simp; decide +kernel), by repeat (first | exact Drawn0.refl _ | apply Drawn0.step)⟩
              · rw [if_neg c7] at H
                exact absurd H (by simp)
            · rw [if_neg c6] at H
              exact absurd H (by simp)
          · rw [if_neg c5] at H
            exact absurd H (by simp)
        · rw [if_neg c4] at H
          have c4b0 : decide (x13_1 < (l0.length : Int)) = false := decide_eq_false c4
          clear c4
          obtain rfl := Option.some.inj H
          go_wp2
          repeat (go_quiet (fail); try go_wp2)
          go_ret
          exact ⟨by first | rfl | (simp; done) | (simp [*]; done) | (simp; decide +kernel), by repeat (first | exact Drawn0.refl _ | apply Drawn0.step)⟩
  · rw [if_neg c3] at H
    have c3b0 : ((l0.length : Int) == (l1.length : Int)) = false := beq_eq_false_iff_ne.mpr c3
    have c3b1 : ((l0.length : Int) != (l1.length : Int)) = true := bne_iff_ne.mpr c3
    have c3b2 : (l0.length == l1.length) = false := by first | simpa using c3 | (simp at c3 ⊢; omega)
    obtain rfl := Option.some.inj H
    go_enter Tryd.func16, Tryd.ntmps16
    go_wp2
    repeat (go_quiet (fail); try go_wp2)
    go_ret
    exact ⟨by first | rfl | (simp; done) | (simp [*]; done) | (simp; decide +kernel), by repeat (first | exact Drawn0.refl _ | apply Drawn0.step)⟩
end Go.Proofs.YtbgmnmjokdfmlaaDoor.PA
namespace Go.Proofs.YtbgmnmjokdfmlaaDoor.PA
open Go.RowKit Go.Proofs.YtbgmnmjokdfmlaaDoor.G Go.Proofs.YtbgmnmjokdfmlaaDoorW.PrintWords Go.Proofs.YtbgmnmjokdfmlaaDoorW.PrintLast Go.Proofs.YtbgmnmjokdfmlaaDoorW.PrintMore
set_option linter.unusedVariables false
set_option linter.unusedSimpArgs false
theorem eqS_go (l : List S54) (hl : l.length ≤ 1000000) : ∀ d i, i + d = l.length → ∀ k, d < k → api_Sample_23.l0 k l l (l.length : Int) (i : Int) = some true
  | 0, i, h, k + 1, hk => by
    unfold api_Sample_23.l0
    rw [if_neg (by omega)]
  | d + 1, i, h, k + 1, hk => by
    unfold api_Sample_23.l0
    have e : wrap64 ((i : Int) + 1) = ((i + 1 : Nat) : Int) := by rw [w64 (by omega) (by omega)]; omega
    rw [if_pos (by omega), if_pos (by omega), if_pos (by omega), if_pos (by omega), if_neg (by simp), e]
    exact eqS_go l hl d (i + 1) (by omega) k (by omega)
theorem EqualS (A0 : Option Addr) (c0 : Nat) (A1 : Option Addr) (c1 : Nat) (l : List S54) (w : World) (hr0 : Kd.C k54 w A0 l.length l) (hc0 : l.length ≤ c0) (hr1 : Kd.C k54 w A1 l.length l) (hc1 : l.length ≤ c1) (hl : l.length ≤ 1000000) :
    Calls Tryd.prog 23 #[.slice A0 l.length c0, .slice A1 l.length c1] w fun e w' => e = .returned (.bool true) ∧ Below w.heap.size w w' :=
  (api_Sample_23.calls (l.length + 1) A0 c0 l A1 c1 l true w hr0 hc0 hr1 hc1 (by
    unfold api_Sample_23.f
    rw [if_pos rfl]
    exact eqS_go l hl l.length 0 (by omega) _ (by omega))).mono fun e w' ⟨he, hd⟩ => ⟨he, hd.below⟩
end Go.Proofs.YtbgmnmjokdfmlaaDoor.PA
namespace Go.Proofs.YtbgmnmjokdfmlaaDoor.PA
open Go.RowKit Go.Proofs.YtbgmnmjokdfmlaaDoor.G Go.Proofs.YtbgmnmjokdfmlaaDoorW.PrintWords Go.Proofs.YtbgmnmjokdfmlaaDoorW.PrintLast Go.Proofs.YtbgmnmjokdfmlaaDoorW.PrintMore
set_option linter.unusedVariables false
set_option linter.unusedSimpArgs false
set_option maxHeartbeats 4000000 in
set_option maxRecDepth 100000 in
theorem serEq.calls (A0 A1 B0 B1 : Option Addr) (a0 a1 b0 b1 : Nat) (x : S60) (w : World) (hr0 : Kd.C k65 w A0 x.f0.length x.f0) (hr1 : Kd.C k54 w A1 x.f1.length x.f1) (hs0 : Kd.C k65 w B0 x.f0.length x.f0) (hs1 : Kd.C k54 w B1 x.f1.length x.f1) (h1 : x.f1.length ≤ a1) (h2 : x.f1.length ≤ b1) (hl : x.f0.length ≤ 1000000) (hm : x.f1.length ≤ 1000000) :
    Calls Tryd.prog 48 #[.agg #[.slice A0 x.f0.length a0, .slice A1 x.f1.length a1], .agg #[.slice B0 x.f0.length b0, .slice B1 x.f1.length b1]] w fun e w' => e = .returned (.bool true) ∧ Below w.heap.size w w' := by
  obtain ⟨o0, ho0⟩ : ∃ o0 : Obj, Obj.cells #[.slice A0 x.f0.length a0, .slice A1 x.f1.length a1] 60 = o0 := ⟨_, rfl⟩
  obtain ⟨o1, ho1⟩ : ∃ o1 : Obj, Obj.cells #[.slice B0 x.f0.length b0, .slice B1 x.f1.length b1] 60 = o1 := ⟨_, rfl⟩
  have HB0 := Aside0.mk (below_alloc (below_alloc (Below.refl w.heap.size w) o0) o1)
  have EQ := Aside0.mk (equalL.calls A0 a0 B0 b0 x.f0.length x.f0 ((w.alloc o0).alloc o1) rfl (Kd.C_below hr0 HB0.out) (Kd.C_below hs0 HB0.out) hl)
  have ES := Aside0.mk (fun W (hb : Below w.heap.size w W) => EqualS A1 a1 B1 b1 x.f1 W (Kd.C_below hr1 hb) h1 (Kd.C_below hs1 hb) h2 hm)
  have H0 : Aside0 (((w.alloc o0).alloc o1).heap[w.heap.size]? = some o0) := ⟨blk_alloc (blk_new w o0) o1⟩
  have H1 : Aside0 (((w.alloc o0).alloc o1).heap[w.heap.size + 1]? = some o1) := ⟨by have := blk_new (w.alloc o0) o1; rwa [World.size_alloc] at this⟩
  subst ho0 ho1
  clear hr0 hr1 hs0 hs1 h1 h2
  generalize x.f0.length = n0 at *
  generalize x.f1.length = n1 at *
  go_enter Tryd.func48, Tryd.ntmps48
  go_wp2_with (first | (go_at_call 46; (with_reducible refine EQ.out.mono ?_); rintro e w1 ⟨rfl, hb⟩; have HB1 := Aside0.mk (below_step HB0.out hb); have x1 := (blk_cell (blk_below H0.out hb) 1).trans rfl; have y1 := (blk_cell (blk_below H1.out hb) 1).trans rfl; clear hb) | (go_at_call 23; (with_reducible refine (ES.out _ HB1.out).mono ?_); rintro e w2 ⟨rfl, hb⟩; have HB2 := Aside0.mk (below_step HB1.out hb); clear hb))
  go_ret
  exact ⟨rfl, HB2.out⟩
def okSer (l : List S60) : Prop := ∀ x ∈ l, x.f0.length ≤ 1000000 ∧ x.f1.length ≤ 1000000
set_option maxHeartbeats 4000000 in
set_option maxRecDepth 100000 in
theorem eqSer.calls (A B : Option Addr) (c d n : Nat) (l : List S60) (w : World) (hn : l.length = n) (hr : Kd.C k60 w A n l) (hs : Kd.C k60 w B n l) (hl : n ≤ 1000000) (hok : okSer l) :
    Calls Tryd.prog 47 #[.slice A n c, .slice B n d, .func (.func 48) #[] #[]] w fun e w' => e = .returned (.bool true) ∧ Below w.heap.size w w' := by
  subst hn
  have HR := Aside0.mk hr
  have HS := Aside0.mk hs
  have HOK := Aside0.mk hok
  clear hr hs hok
  have hnn : ((l.length : Int) != (l.length : Int)) = false := by simp
  go_enter Tryd.func47, Tryd.ntmps47
  go_wp2
  go_loopg [17] l.length (fun kx s17 wr => ∃ (k : Nat), s17 = .int .i64 k ∧ k ≤ l.length ∧ l.length - k ≤ kx ∧ Aside0 (Below w.heap.size w wr))
  case atStart => exact ⟨0, rfl, Nat.zero_le _, Nat.le_refl _, ⟨Below.refl _ _⟩⟩
  case round =>
    obtain ⟨k, rfl, hk, hkx, HB⟩ := hrel
    by_cases hlt : k < l.length
    · obtain ⟨ad, A0, c0, A1, c1, rfl, x0, x1, l0, g0, l1, g1⟩ := at_T60 (Kd.C_below HR.out HB.out) (k : Int) (by omega) (by omega)
      obtain ⟨ae, B0, d0, B1, d1, rfl, y0, y1, m0, h0, m1, h1⟩ := at_T60 (Kd.C_below HS.out HB.out) (k : Int) (by omega) (by omega)
      rw [Int.toNat_natCast] at x0 x1 y0 y1
      have hkz : (k : Int) < (l.length : Int) := by omega
      have hx : (rd_T60 l (k : Int)).f0.length ≤ 1000000 ∧ (rd_T60 l (k : Int)).f1.length ≤ 1000000 := by
        have e : rd_T60 l (k : Int) = l[k] := by simp [rd_T60, List.getD_eq_getElem?_getD, List.getElem?_eq_getElem hlt]
        rw [e]
        exact HOK.out _ (List.getElem_mem hlt)
      generalize rd_T60 l (k : Int) = x at *
      have EE := Aside0.mk (fun W (hb : Below wr.heap.size wr W) => serEq.calls A0 A1 B0 B1 c0 c1 d0 d1 x W (Kd.C_below g0 hb) (Kd.C_below g1 hb) (Kd.C_below h0 hb) (Kd.C_below h1 hb) l1 m1 hx.1 hx.2)
      obtain ⟨o0, ho0⟩ : ∃ o0 : Obj, Obj.cells #[.slice A0 x.f0.length c0, .slice A1 x.f1.length c1] 60 = o0 := ⟨_, rfl⟩
      obtain ⟨o1, ho1⟩ : ∃ o1 : Obj, Obj.cells #[.slice B0 x.f0.length d0, .slice B1 x.f1.length d1] 60 = o1 := ⟨_, rfl⟩
      have HB0 := Aside0.mk (below_alloc (below_alloc (Below.refl wr.heap.size wr) o0) o1)
      have z0 := pw_cell_below (below_alloc (Below.refl wr.heap.size wr) o0) y0
      have z1 := pw_cell_below (below_alloc (Below.refl wr.heap.size wr) o0) y1
      subst ho0 ho1
      clear g0 g1 h0 h1 l0 l1 m0 m1 y0 y1 hx
      generalize x.f0.length = n0 at *
      generalize x.f1.length = n1 at *
      go_wp2_with (first | (go_at_call 48; (with_reducible refine (EE.out _ HB0.out).mono ?_); rintro e w2 ⟨rfl, hb⟩; have HB2 := Aside0.mk (below_step HB.out (below_step HB0.out hb)); clear hb))
      go_roundg (l.length - (k + 1))
      case measure => omega
      case rel => exact ⟨k + 1, by go_num, by omega, Nat.le_refl _, HB2⟩
    · obtain rfl : k = l.length := by omega
      have hkz : ¬ (l.length : Int) < (l.length : Int) := by omega
      go_wp2
      go_ret
      exact ⟨rfl, HB.out⟩
set_option maxHeartbeats 4000000 in
theorem sameSer.calls (A B : Option Addr) (c d n : Nat) (l : List S60) (w : World) (hn : l.length = n) (hr : Kd.C k60 w A n l) (hs : Kd.C k60 w B n l) (hl : n ≤ 1000000) (hok : okSer l) :
    Calls Tryd.prog 24 #[.slice A n c, .slice B n d] w fun e w' => e = .returned (.bool true) ∧ Below w.heap.size w w' := by
  have EE := Aside0.mk (eqSer.calls A B c d n l w hn hr hs hl hok)
  clear hn hr hs hok
  go_enter Tryd.func24, Tryd.ntmps24
  go_wp2_with (first | (go_at_call 47; (with_reducible refine EE.out.mono ?_); rintro e w2 ⟨rfl, hb⟩; have HB2 := Aside0.mk hb; clear hb))
  go_ret
  exact ⟨rfl, HB2.out⟩
end Go.Proofs.YtbgmnmjokdfmlaaDoor.PA
namespace Go.Proofs.YtbgmnmjokdfmlaaDoor.PA
open Go.RowKit Go.Proofs.YtbgmnmjokdfmlaaDoor.G Go.Proofs.YtbgmnmjokdfmlaaDoorW.PrintWords Go.Proofs.YtbgmnmjokdfmlaaDoorW.PrintLast Go.Proofs.YtbgmnmjokdfmlaaDoorW.PrintMore
set_option linter.unusedVariables false
set_option linter.unusedSimpArgs false
theorem tot_le {m : Nat} : ∀ {l : List S60}, (∀ x ∈ l, x.f1.length ≤ m) → tot l ≤ l.length * m
  | [], _ => Nat.zero_le _
  | x :: l, h => by
    have h1 := h x (List.mem_cons_self ..)
    have h2 := tot_le (fun y hy => h y (List.mem_cons_of_mem _ hy) : ∀ y ∈ l, y.f1.length ≤ m)
    show x.f1.length + tot l ≤ (l.length + 1) * m
    rw [Nat.add_mul, Nat.one_mul]
    omega
theorem tot_small {l : List S60} {n m : Nat} (h8 : l.length ≤ n) (h : ∀ x ∈ l, x.f1.length ≤ m) (hb : n * m ≤ 1000000 := by decide) : tot l ≤ 1000000 :=
  Nat.le_trans (tot_le h) (Nat.le_trans (Nat.mul_le_mul_right m h8) hb)
theorem joinL_len (l : List S60) : (joinL l).length ≤ l.length := by
  have := (groups_len' l).1
  show ((groupsL l).map _).length ≤ _
  rwa [List.length_map]
theorem joinL_mem {l : List S60} {x : S60} (h : x ∈ joinL l) : (∃ s ∈ l, x.f0 = s.f0) ∧ x.f1.length ≤ tot l := by
  obtain ⟨y, hy, rfl⟩ := List.mem_map.1 h
  exact ⟨groups_lab l y hy, Nat.le_trans (risenL_len y.f1) ((groups_len' l).2 y hy)⟩
theorem join_ok {l : List S60} (h0 : ∀ x ∈ l, x.f0.length ≤ 10) (ht : tot l ≤ 1000000) : okSer (joinL l) := fun x hx => by
  obtain ⟨⟨s, hs, he⟩, h1⟩ := joinL_mem hx
  rw [he]
  exact ⟨Nat.le_trans (h0 s hs) (by decide), Nat.le_trans h1 ht⟩
theorem kS_heapJ : Kd.Heap k60 := Kd.heap_iso _ (Kd.heap_pair (Kd.heap_slice _ (Kd.heap_iso _ (Kd.heap_pair Kd.heap_string Kd.heap_string))) (Kd.heap_slice _ (Kd.heap_iso _ (Kd.heap_pair (Kd.heap_int .i64) (Kd.heap_int .u64)))))
end Go.Proofs.YtbgmnmjokdfmlaaDoor.PA
namespace Go.Proofs.YtbgmnmjokdfmlaaDoor.G
open Go.ChangeShapes Go.WideShapes Go.Deep Go.RowKit Go.Proofs.YtbgmnmjokdfmlaaDoor.PA Go.Proofs.YtbgmnmjokdfmlaaDoorW.PrintWords
set_option linter.unusedVariables false
section
variable {H : Type} {enc : TypeId × Value → H} {P : Program} {w : World} {base : Nat} {spare : Nat → Bool} {held : Bool}
theorem open_slice_fields {t e : TypeId} {fs : Array Field} {fuel : Nat} {cs : List Value} {x : DataW H × List MemPlace} (ht : P.underlying t = some (.slice e)) (he : P.underlying e = some (.struct fs))
    (hone : oneCellFields P fs = true) (hC : P.cellsOf e = fs.size) (h : DataW.trod enc P w base spare held fuel t cs = some x) :
    (cs = [.slice none 0 0] ∧ x = (.nil, [])) ∨
    ∃ (a : Addr) (len cap m : Nat) (D : Nat → DataW H) (Pl : Nat → List MemPlace), cs = [.slice (some a) len cap] ∧ base ≤ a.block ∧ len ≤ cap ∧ cap ≤ maxLen ∧ m = (if spare a.block then cap else len) ∧
      x = (.slice ((List.range len).map D) ((List.range (m - len)).map fun j => D (len + j)), MemPlace.row a (m * fs.size) ++ (List.range m).flatMap Pl) ∧
      ∀ i, i < m → ∃ (ys : List (DataW H × List MemPlace)) (n : Nat), D i = .agg (ys.map (·.1)) ∧ Pl i = ys.flatMap (·.2) ∧ ys.length = fs.size ∧
        ∀ (j : Nat) (f : Field), fs[j]? = some f → ∃ (v : Value) (y : DataW H × List MemPlace), w.cell? (a.add (i * fs.size + j)) = some v ∧ ys[j]? = some y ∧ DataW.trod enc P w base spare held n f.type [v] = some y := by
  rcases open_slice ht h with h0 | ⟨a, len, cap, m, n, D, Pl, hcs, hb, hl, hm, hmm, hx, hi⟩
  · exact .inl h0
  · refine .inr ⟨a, len, cap, m, D, Pl, hcs, hb, hl, hm, hmm, by rw [hC] at hx; exact hx, fun i him => ?_⟩
    obtain ⟨cs', hc, ht'⟩ := hi i him
    rw [hC] at hc
    obtain ⟨ys, n', hn', hy, hlen, hyl, hf⟩ := DataW.trod_struct he ht'
    obtain ⟨_, hcl, hat⟩ := World.cells?_some hc
    simp only [Prod.mk.injEq] at hy
    refine ⟨ys, n', hy.1, hy.2, hyl, fun j f hj => ?_⟩
    obtain ⟨ho, hk⟩ := hone_of hone j f hj
    have hjl : j < fs.size := (Array.getElem?_eq_some_iff.1 hj).1
    have hcell := hat j hjl
    have hv : cs'[j]? = some (cs'[j]'(by omega)) := List.getElem?_eq_getElem (by omega)
    have h1 := hf j f hj
    rw [ho, hk] at h1
    have hone' : (cs'.drop j).take 1 = [cs'[j]'(by omega)] := by
      rw [List.drop_eq_getElem_cons (by omega)]
      rfl
    rw [hone'] at h1
    have hys : ys[j]? = some (ys[j]'(by omega)) := List.getElem?_eq_getElem (by omega)
    refine ⟨_, _, ?_, hys, h1.trans hys⟩
    rw [← Go.Deep.add_add, hcell, hv]
end
section
variable {H : Type} {enc : TypeId × Value → H} {w : World}
theorem choose_list {α : Type} (Q : Nat → α → Prop) : ∀ n, (∀ i, i < n → ∃ x, Q i x) → ∃ l : List α, l.length = n ∧ ∀ i x, l[i]? = some x → Q i x
  | 0, _ => ⟨[], rfl, fun i x h => by simp at h⟩
  | n + 1, h => by
    obtain ⟨l, hl, hq⟩ := choose_list Q n (fun i hi => h i (by omega))
    obtain ⟨x, hx⟩ := h n (by omega)
    refine ⟨l ++ [x], by simp [hl], fun i y hy => ?_⟩
    rcases Nat.lt_trichotomy i n with hi | hi | hi
    · rw [List.getElem?_append_left (by omega)] at hy
      exact hq i y hy
    · subst hi
      rw [List.getElem?_append_right (by omega), hl] at hy
      simp at hy
      exact hy ▸ hx
    · rw [List.getElem?_eq_none (by simp; omega)] at hy
      cases hy
theorem open_rows30 {v : Value} {d : DataW H} {p : List MemPlace} (hv : ∃ a len cap, v = .slice a len cap) (h : DataW.Trod enc Tryd.prog w 0 (fun _ => true) true 30 v d p) :
    ∃ (A : Option Addr) (c : Nat) (l : List S54), v = .slice A l.length c ∧ k54.C w A l.length l ∧ l.length ≤ c ∧ ∀ x ∈ l, okS x := by
  obtain ⟨a, len, cap, rfl⟩ := hv
  obtain ⟨fuel, hf⟩ := h
  rcases open_slice_fields Tryd.underlying30 Tryd.underlying54 (by kernel_rfl) (by kernel_rfl) hf with ⟨hcs, _⟩ | ⟨x, l, c, m, D, Pl, hcs, _, hl, hm, hmm, _, hi⟩
  · simp [Value.cells] at hcs
    obtain ⟨rfl, rfl, rfl⟩ := hcs
    exact ⟨none, 0, [], rfl, ⟨rfl, by simp, fun h => by simp at h⟩, Nat.le_refl _, fun x hx => by cases hx⟩
  · simp [Value.cells] at hcs
    obtain ⟨rfl, rfl, rfl⟩ := hcs
    simp only [if_true] at hmm
    subst hmm
    obtain ⟨xs, hxl, hxs⟩ := choose_list (fun i (s : S54) => okS s ∧ ∃ cs, cs.length = 2 ∧ k54.K w s cs ∧ ∀ j u, cs[j]? = some u → w.cell? (x.add (i * 2 + j)) = some u) len (fun i hil => by
      obtain ⟨ys, n, _, _, _, hfld⟩ := hi i (by omega)
      obtain ⟨v0, y0, c0, _, t0⟩ := hfld 0 _ rfl
      obtain ⟨v1, y1, c1, _, t1⟩ := hfld 1 _ rfl
      obtain ⟨a0, hc0, _, w0⟩ := DataW.trod_int Tryd.underlying3 t0
      obtain rfl : v0 = .int .i64 a0 := by simpa using hc0
      obtain ⟨a1, hc1, _, w1⟩ := DataW.trod_int Tryd.underlying52 t1
      obtain rfl : v1 = .int .u64 a1 := by simpa using hc1
      refine ⟨⟨a0, a1⟩, ⟨i64_bd w0, u64_bd w1⟩, _, rfl, k54_mk w ⟨a0, a1⟩, fun j u hj => ?_⟩
      match j, hj with
      | 0, hj => injection hj with hj; subst hj; exact c0
      | 1, hj => injection hj with hj; subst hj; exact c1
      | n + 2, hj => simp at hj)
    have hmx : maxLen ≤ 9223372036854775807 := by decide
    refine ⟨some x, m, xs, by rw [hxl], ⟨rfl, by rw [hxl]; omega, fun _ => ⟨x, rfl, fun j p hj => ?_⟩⟩, by omega, fun s hs => ?_⟩
    · obtain ⟨_, cs, h1, h2, h3⟩ := hxs j p hj
      exact ⟨cs, h1, h2, h3⟩
    · obtain ⟨j, hj⟩ := List.getElem?_of_mem hs
      exact (hxs j s hj).1
end
end Go.Proofs.YtbgmnmjokdfmlaaDoor.G
namespace Go.Proofs.YtbgmnmjokdfmlaaDoor.G
open Go.ChangeShapes Go.WideShapes Go.Deep Go.RowKit Go.Proofs.YtbgmnmjokdfmlaaDoor.PA Go.Proofs.YtbgmnmjokdfmlaaDoorW.PrintWords
set_option linter.unusedVariables false
theorem mem_weightsAll {H : Type} {P : Program} {e : TypeId} {n : Nat} {x : DataW H} : ∀ {l : List (DataW H)}, x ∈ l → n ∈ DataW.weights P e x → n ∈ DataW.weightsAll P e l
  | y :: r, hx, hn => by
    rw [DataW.weightsAll, List.mem_append]
    rcases List.mem_cons.1 hx with h | h
    · subst h; exact .inl hn
    · exact .inr (mem_weightsAll h hn)
section
variable {H : Type} {enc : TypeId × Value → H} {w : World}
theorem okLs_nil : okLs ([] : List S65) := fun x h => by cases h
theorem ser_labels {n : Nat} {v : Value} {y : DataW H × List MemPlace} (hsz : ∀ m ∈ DataW.weights Tryd.prog 27 y.1, m ≤ reachBytes) (h : DataW.trod enc Tryd.prog w 0 (fun _ => true) true n 27 [v] = some y) :
    ∃ (A : Option Addr) (c : Nat) (l : List S65), v = .slice A l.length c ∧ l.length ≤ c ∧ k65.C w A l.length l ∧ okLs l := by
  rcases open_slice_fields Tryd.underlying27 Tryd.underlying65 (by kernel_rfl) (by kernel_rfl) h with ⟨hcs, _⟩ | ⟨x, l, c, m, D, Pl, hcs, _, hl, hm, hmm, hdx, hi⟩
  · simp only [List.cons.injEq, and_true] at hcs
    exact ⟨none, 0, [], hcs, Nat.le_refl _, ⟨rfl, by simp, fun h => by simp at h⟩, okLs_nil⟩
  · simp only [List.cons.injEq, and_true] at hcs
    subst hcs
    simp only [if_true] at hmm
    subst hmm
    have hd : y.1 = .slice ((List.range l).map D) ((List.range (m - l)).map fun j => D (l + j)) := by rw [hdx]
    obtain ⟨xs, hxl, hxs⟩ := choose_list (fun i (s : S65) => (s.f0.size ≤ 140737488355328 ∧ s.f1.size ≤ 140737488355328) ∧ ∃ cs, cs.length = 2 ∧ k65.K w s cs ∧ ∀ j u, cs[j]? = some u → w.cell? (x.add (i * 2 + j)) = some u) l (fun i hil => by
      obtain ⟨ys, n, hDi, _, _, hfld⟩ := hi i (by omega)
      obtain ⟨v0, y0, c0, hy0, t0⟩ := hfld 0 _ rfl
      obtain ⟨v1, y1, c1, hy1, t1⟩ := hfld 1 _ rfl
      obtain ⟨s0, e0, d0, _⟩ := DataW.trod_string Tryd.underlying9 t0
      obtain ⟨s1, e1, d1, _⟩ := DataW.trod_string Tryd.underlying9 t1
      obtain rfl : v0 = .string s0 := by simpa using e0
      obtain rfl : v1 = .string s1 := by simpa using e1
      have hw : (DataW.weightsEach Tryd.prog [9, 9] (ys.map (·.1))).all (· ≤ reachBytes) = true := by
        rw [List.all_eq_true]
        intro k hk
        have := hsz k (by
          rw [hd, DataW.weights, Tryd.underlying27]
          exact List.mem_cons_of_mem _ (List.mem_append_left _ (mem_weightsAll (List.mem_map.2 ⟨i, List.mem_range.2 hil, rfl⟩) (by rw [hDi, DataW.weights, Tryd.underlying65]; exact hk))))
        exact decide_eq_true this
      have z0 := sized_string (j := 0) hw rfl (bytes := s0.data.toList) (by rw [List.getElem?_map, hy0, d0]; rfl)
      have z1 := sized_string (j := 1) hw rfl (bytes := s1.data.toList) (by rw [List.getElem?_map, hy1, d1]; rfl)
      rw [Array.length_toList] at z0 z1
      have hrb : reachBytes ≤ 140737488355328 := by decide
      refine ⟨⟨s0, s1⟩, ⟨Nat.le_trans z0 hrb, Nat.le_trans z1 hrb⟩, _, rfl, k65_mk w ⟨s0, s1⟩, fun j u hj => ?_⟩
      match j, hj with
      | 0, hj => injection hj with hj; subst hj; exact c0
      | 1, hj => injection hj with hj; subst hj; exact c1
      | n + 2, hj => simp at hj)
    have hmx : maxLen ≤ 9223372036854775807 := by decide
    refine ⟨some x, m, xs, by rw [hxl], by omega, ⟨rfl, by rw [hxl]; omega, fun _ => ⟨x, rfl, fun j p hj => ?_⟩⟩, fun s hs => ?_⟩
    · obtain ⟨_, cs, h1, h2, h3⟩ := hxs j p hj
      exact ⟨cs, h1, h2, h3⟩
    · obtain ⟨j, hj⟩ := List.getElem?_of_mem hs
      exact (hxs j s hj).1
theorem ser_samples {n : Nat} {v : Value} {y : DataW H × List MemPlace} (h : DataW.trod enc Tryd.prog w 0 (fun _ => true) true n 30 [v] = some y) :
    ∃ (A : Option Addr) (c : Nat) (l : List S54), v = .slice A l.length c ∧ l.length ≤ c ∧ k54.C w A l.length l ∧ ∀ x ∈ l, okS x := by
  have hv : ∃ a len cap, v = .slice a len cap := by
    rcases open_slice_fields Tryd.underlying30 Tryd.underlying54 (by kernel_rfl) (by kernel_rfl) h with ⟨hcs, _⟩ | ⟨x, l, c, m, D, Pl, hcs, _⟩
    · simp only [List.cons.injEq, and_true] at hcs
      exact ⟨_, _, _, hcs⟩
    · simp only [List.cons.injEq, and_true] at hcs
      exact ⟨_, _, _, hcs⟩
  have hT : DataW.Trod enc Tryd.prog w 0 (fun _ => true) true 30 v y.1 y.2 := by
    obtain ⟨a, len, cap, rfl⟩ := hv
    exact ⟨n, h⟩
  obtain ⟨A, c, l, h1, h2, h3, h4⟩ := open_rows30 hv hT
  exact ⟨A, c, l, h1, h3, h2, h4⟩
theorem open_rowsS38 {v : Value} {d : DataW H} {p : List MemPlace} (hv : ∃ a len cap, v = .slice a len cap) {ts : List TypeId} {ds : List (DataW H)} (hsz : (DataW.weightsEach Tryd.prog (38 :: ts) (d :: ds)).all (· ≤ reachBytes) = true) (h : DataW.Trod enc Tryd.prog w 0 (fun _ => true) true 38 v d p) :
    ∃ (A : Option Addr) (c : Nat) (l : List S60), v = .slice A l.length c ∧ k60.C w A l.length l ∧ l.length ≤ c ∧ okW l ∧ l.length * 48 ≤ 140737488355328 := by
  obtain ⟨a, len, cap, rfl⟩ := hv
  obtain ⟨fuel, hf⟩ := h
  rcases open_slice_fields Tryd.underlying38 Tryd.underlying60 (by kernel_rfl) (by kernel_rfl) hf with ⟨hcs, _⟩ | ⟨x, l, c, m, D, Pl, hcs, _, hl, hm, hmm, hdx, hi⟩
  · simp [Value.cells] at hcs
    obtain ⟨rfl, rfl, rfl⟩ := hcs
    exact ⟨none, 0, [], rfl, ⟨rfl, by simp, fun h => by simp at h⟩, Nat.le_refl _, (fun x hx => by cases hx), by simp⟩
  · simp [Value.cells] at hcs
    obtain ⟨rfl, rfl, rfl⟩ := hcs
    simp only [if_true] at hmm
    subst hmm
    have hd : d = .slice ((List.range len).map D) ((List.range (m - len)).map fun j => D (len + j)) := (Prod.mk.inj hdx).1
    have hall : ∀ k ∈ DataW.weights Tryd.prog 38 d, k ≤ reachBytes := fun k hk => by
      have := List.all_eq_true.1 hsz k (by rw [DataW.weightsEach, List.mem_append]; exact .inl hk)
      exact of_decide_eq_true this
    have h48 := hall ((((List.range len).map D).length + ((List.range (m - len)).map fun j => D (len + j)).length) * Tryd.prog.bytesOf 60) (by rw [hd, DataW.weights, Tryd.underlying38]; exact List.mem_cons_self ..)
    obtain ⟨xs, hxl, hxs⟩ := choose_list (fun i (s : S60) => (okLs s.f0 ∧ ∀ q ∈ s.f1, okS q) ∧ ∃ cs, cs.length = 2 ∧ k60.K w s cs ∧ ∀ j u, cs[j]? = some u → w.cell? (x.add (i * 2 + j)) = some u) len (fun i hil => by
      obtain ⟨ys, n, hDi, _, _, hfld⟩ := hi i (by omega)
      obtain ⟨v0, y0, c0, hy0, t0⟩ := hfld 0 _ rfl
      obtain ⟨v1, y1, c1, hy1, t1⟩ := hfld 1 _ rfl
      obtain ⟨A0, q0, l0, rfl, hq0, hC0, hw0⟩ := ser_labels (fun k hk => hall k (by
        rw [hd, DataW.weights, Tryd.underlying38]
        refine List.mem_cons_of_mem _ (List.mem_append_left _ (mem_weightsAll (List.mem_map.2 ⟨i, List.mem_range.2 hil, rfl⟩) ?_))
        rw [hDi, DataW.weights, Tryd.underlying60]
        exact DataW.weights_mem_each (j := 0) (ts := [27, 30]) rfl (by rw [List.getElem?_map, hy0]; rfl) k hk)) t0
      obtain ⟨A1, q1, l1, rfl, hq1, hC1, hw1⟩ := ser_samples t1
      refine ⟨⟨l0, l1⟩, ⟨hw0, hw1⟩, _, rfl, k60_mk w ⟨l0, l1⟩ hq0 hC0 hq1 hC1, fun j u hj => ?_⟩
      match j, hj with
      | 0, hj => injection hj with hj; subst hj; exact c0
      | 1, hj => injection hj with hj; subst hj; exact c1
      | n + 2, hj => simp at hj)
    have hmx : maxLen ≤ 9223372036854775807 := by decide
    have hbo : Tryd.prog.bytesOf 60 = 48 := by kernel_rfl
    have hrb : reachBytes ≤ 140737488355328 := by decide
    refine ⟨some x, m, xs, by rw [hxl], ⟨rfl, by rw [hxl]; omega, fun _ => ⟨x, rfl, fun j p hj => ?_⟩⟩, by omega, fun s hs => ?_, ?_⟩
    · obtain ⟨_, cs, h1, h2, h3⟩ := hxs j p hj
      exact ⟨cs, h1, h2, h3⟩
    · obtain ⟨j, hj⟩ := List.getElem?_of_mem hs
      exact (hxs j s hj).1
    · rw [hbo] at h48
      simp only [List.length_map, List.length_range] at h48
      rw [hxl]
      omega
end
end Go.Proofs.YtbgmnmjokdfmlaaDoor.G

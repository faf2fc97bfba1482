/- bits.Put's and bits.PutInt's contracts. -/
import Derived.Test.YtpeekkpdglfbbaaDoorPBits
import Derived.Deep.RegionWith
import Derived.Test.YtpeekkpdglfbbaaDoorPAf44
import Derived.Test.YtpeekkpdglfbbaaDoorPAf47
import Derived.Test.YtpeekkpdglfbbaaDoorPAf48
namespace Go.Proofs.YtpeekkpdglfbbaaDoor.PA
open Go.RowKit Go.Proofs.YtpeekkpdglfbbaaDoor.G Go.Proofs.YtpeekkpdglfbbaaDoorW.PrintWords Go.Proofs.YtpeekkpdglfbbaaDoorW.PrintLast Go.Proofs.YtpeekkpdglfbbaaDoorW.PrintMore
set_option linter.unusedVariables false
set_option linter.unusedSimpArgs false

def bits_Put.f (l : List Int) (a0 a1 a2 : Int) : Option (List Int × Int × Int) :=
  if l.length ≤ 900000000 then (bits_Can.f l a0).bind fun b => if b = true then (if a2 < 0 then some ([], 0, 1) else if 64 < a2 then some ([], 0, 1) else (bits_add.f l a0 a1 a2).bind fun r => some (r.1, r.2, 0)) else some ([], 0, 1)
  else none

set_option maxHeartbeats 2000000 in
set_option maxRecDepth 100000 in
theorem bits_Put.calls (A0_0 : Option Addr) (c0_0 : Nat) (l0_0 : List Int) (a0_1 : Int) (a1 : Int) (a2 : Int) (r1 : List Int) (r2 : Int) (r3 : Int) (w : World) (hr0_0 : Kd.C (Kd.int .u8) w A0_0 l0_0.length l0_0) (hc0_0 : l0_0.length ≤ c0_0) (h : bits_Put.f l0_0 a0_1 a1 a2 = some (r1, r2, r3)) :
    Calls Tryd.prog 38 #[.agg #[.slice A0_0 l0_0.length c0_0, .int .i64 a0_1], .int .u64 a1, .int .i64 a2] w fun e w' => ∃ v0_ : Value, e = .returned (.tuple #[.agg #[v0_, .int .i64 r2], .int .i64 r3]) ∧ Kd.R (Kd.int .u8) 5 w' w.heap.size (fun _ => True) v0_ r1 ∧ Below w.heap.size w w' := by
  have hu24 := Tryd.underlying44
  unfold bits_Put.f at h
  split at h
  case isFalse => cases h
  case isTrue hlen =>
  obtain ⟨b, hcan, h⟩ := Option.bind_eq_some_iff.mp h
  have HR := Aside0.mk hr0_0
  have HC := Aside0.mk hc0_0
  have HL := Aside0.mk hlen
  have H := Aside0.mk h
  clear hr0_0 hc0_0 hlen h
  go_enter Tryd.func38, Tryd.ntmps38
  go_wp2_with (fail)
  refine (bits_Can.calls A0_0 c0_0 l0_0 a0_1 b _ ?c1 HC.out hcan).mono ?_
  case c1 => exact Kd.C_alloc (Kd.C_alloc HR.out _) _
  rintro e w1 ⟨rfl, hb⟩
  have BK0 := Aside0.mk (blk_below (g := w.heap.size) (o := .cells #[.slice A0_0 l0_0.length c0_0, .int .i64 a0_1] 44 (0, 0)) (blk_alloc (blk_new w _) _) hb)
  have BK1 := Aside0.mk (blk_below (g := w.heap.size + 1) (o := .cells #[.slice none 0 0, .int .i64 0] 44 (0, 0)) (by have := blk_new (w.alloc (.cells #[.slice A0_0 l0_0.length c0_0, .int .i64 a0_1] 44 (0, 0))) (.cells #[.slice none 0 0, .int .i64 0] 44 (0, 0)); rw [show (w.alloc (.cells #[.slice A0_0 l0_0.length c0_0, .int .i64 a0_1] 44 (0, 0))).heap.size = w.heap.size + 1 by simp] at this; exact this) hb)
  have HB := Aside0.mk (below_step (below_alloc (below_alloc (Below.refl w.heap.size w) _) _) hb)
  clear hb hcan
  have hz0 : w1.cell? ⟨w.heap.size, 0, none⟩ = some (.slice A0_0 l0_0.length c0_0) := blk_cell BK0.out 0
  have hz1 : w1.cell? ⟨w.heap.size, 1, none⟩ = some (.int .i64 a0_1) := blk_cell BK0.out 1
  have hy0 : w1.cell? ⟨w.heap.size + 1, 0, none⟩ = some (.slice none 0 0) := blk_cell BK1.out 0
  have hy1 : w1.cell? ⟨w.heap.size + 1, 1, none⟩ = some (.int .i64 0) := blk_cell BK1.out 1
  have hf0 := blk_frozen BK1.out 0
  have hf1 := blk_frozen BK1.out 1
  by_cases hbad : b = false ∨ a2 < 0 ∨ 64 < a2
  · have hr : r1 = [] ∧ r2 = 0 ∧ r3 = 1 := by
      have h_ := H.out
      split at h_
      case isFalse => simp only [Option.some.injEq, Prod.mk.injEq] at h_; obtain ⟨rfl, rfl, rfl⟩ := h_; exact ⟨rfl, rfl, rfl⟩
      case isTrue hb1 =>
        split at h_
        case isTrue => simp only [Option.some.injEq, Prod.mk.injEq] at h_; obtain ⟨rfl, rfl, rfl⟩ := h_; exact ⟨rfl, rfl, rfl⟩
        case isFalse h1 =>
          split at h_
          case isTrue => simp only [Option.some.injEq, Prod.mk.injEq] at h_; obtain ⟨rfl, rfl, rfl⟩ := h_; exact ⟨rfl, rfl, rfl⟩
          case isFalse h2 => rcases hbad with h3 | h3 | h3 <;> simp_all
    obtain ⟨rfl, rfl, rfl⟩ := hr
    clear H
    have key : ∀ (d1 d2 : Bool), decide (a2 < 0) = d1 → decide (64 < a2) = d2 → (b = false ∨ d1 = true ∨ d2 = true) → True := fun _ _ _ _ _ => trivial
    rcases Bool.eq_false_or_eq_true b with rfl | rfl
    · by_cases h1 : a2 < 0
      · have hd1 : decide (a2 < 0) = true := decide_eq_true h1
        clear hbad h1 key
        go_wp2_with (fail)
        refine bodyPost_ret (results_ct rfl _ _ (w.heap.size + 1) 44 #[.slice none 0 0, .int .i64 0] (0, 0) _ rfl (by (with_reducible repeat (first | refine blk_drewN ?_ _ | refine blk_drew ?_ | refine blk_alloc ?_ _)); refine blk_put (cs := #[.slice none 0 0, .int .i64 0]) ?_ 1 _ rfl; refine blk_put (cs := #[.slice none 0 0, .int .i64 0]) ?_ 0 _ rfl; exact BK1.out) Tryd.underlying44 rfl (by kernel_rfl)) rfl ?_
        exact ⟨_, rfl, Kd.R_nil _ _ _ _ _, (HB.out.setCell (p := ⟨w.heap.size + 1, 0, none⟩) (by simp) _).setCell (p := ⟨w.heap.size + 1, 1, none⟩) (by simp) _⟩
      · have hd1 : decide (a2 < 0) = false := decide_eq_false h1
        have hd2 : decide (64 < a2) = true := decide_eq_true (by rcases hbad with h | h | h; cases h; exact absurd h h1; exact h)
        clear hbad h1 key
        go_wp2_with (fail)
        refine bodyPost_ret (results_ct rfl _ _ (w.heap.size + 1) 44 #[.slice none 0 0, .int .i64 0] (0, 0) _ rfl (by (with_reducible repeat (first | refine blk_drewN ?_ _ | refine blk_drew ?_ | refine blk_alloc ?_ _)); refine blk_put (cs := #[.slice none 0 0, .int .i64 0]) ?_ 1 _ rfl; refine blk_put (cs := #[.slice none 0 0, .int .i64 0]) ?_ 0 _ rfl; exact BK1.out) Tryd.underlying44 rfl (by kernel_rfl)) rfl ?_
        exact ⟨_, rfl, Kd.R_nil _ _ _ _ _, (HB.out.setCell (p := ⟨w.heap.size + 1, 0, none⟩) (by simp) _).setCell (p := ⟨w.heap.size + 1, 1, none⟩) (by simp) _⟩
    · clear hbad key
      go_wp2_with (fail)
      refine bodyPost_ret (results_ct rfl _ _ (w.heap.size + 1) 44 #[.slice none 0 0, .int .i64 0] (0, 0) _ rfl (by (with_reducible repeat (first | refine blk_drewN ?_ _ | refine blk_drew ?_ | refine blk_alloc ?_ _)); refine blk_put (cs := #[.slice none 0 0, .int .i64 0]) ?_ 1 _ rfl; refine blk_put (cs := #[.slice none 0 0, .int .i64 0]) ?_ 0 _ rfl; exact BK1.out) Tryd.underlying44 rfl (by kernel_rfl)) rfl ?_
      exact ⟨_, rfl, Kd.R_nil _ _ _ _ _, (HB.out.setCell (p := ⟨w.heap.size + 1, 0, none⟩) (by simp) _).setCell (p := ⟨w.heap.size + 1, 1, none⟩) (by simp) _⟩
  · obtain ⟨rfl, h1, h2⟩ : b = true ∧ ¬ a2 < 0 ∧ ¬ 64 < a2 := by
      refine ⟨?_, fun h => hbad (.inr (.inl h)), fun h => hbad (.inr (.inr h))⟩
      cases b <;> simp_all
    have h_ := H.out
    rw [if_pos rfl, if_neg h1, if_neg h2] at h_
    obtain ⟨⟨q1, q2⟩, hadd, h_⟩ := Option.bind_eq_some_iff.mp h_
    simp only [Option.some.injEq, Prod.mk.injEq] at h_
    obtain ⟨rfl, rfl, rfl⟩ := h_
    have hd1 : decide (a2 < 0) = false := decide_eq_false h1
    have hd2 : decide (64 < a2) = false := decide_eq_false h2
    have HADD := Aside0.mk hadd
    clear hbad h1 h2 H hadd h_ h
    go_upto_region 3 with (fail)
    go_cut [8] (fun v8 wc => ∃ (gy : Nat) (v : Value), v8 = .pointer (some ⟨gy, 0, none⟩) ∧ Aside0 (wc.heap[gy]? = some (.cells #[v, .int .i64 a0_1] 44 (0, 0))) ∧ Aside0 (Kd.R (Kd.int .u8) 5 wc w.heap.size (fun _ => True) v l0_0) ∧ Aside0 (wc.heap[w.heap.size + 1]? = some (.cells #[.slice none 0 0, .int .i64 0] 44 (0, 0))) ∧ Aside0 (Below w.heap.size w wc) ∧ Aside0 (w.heap.size + 1 < gy))
    case first =>
      have hs0 := blk_lt BK0.out
      have hs1 := blk_lt BK1.out
      have HCL : Aside0 (bytes_Clone.f l0_0 = some l0_0) := ⟨by unfold bytes_Clone.f G.bytes_Clone.f; rw [if_pos (by have := HL.out; omega)]⟩
      go_region_with (first
        | (go_at_call 45; (with_reducible refine (bytes_Clone.calls A0_0 c0_0 l0_0 l0_0 w1.drew ?c1 HC.out HCL.out).mono ?_); (case c1 => exact Kd.C_drew (Kd.C_below HR.out HB.out)); rintro e w2 ⟨v, rfl, ho, hb⟩; have hz1 : w2.cell? ⟨w.heap.size, 1, none⟩ = some (.int .i64 a0_1) := blk_cell (blk_below (blk_drew BK0.out) hb) 1; have HO := Aside0.mk (Kd.R_lower ho (below_size (below_drew1 HB.out))); have HB2 := Aside0.mk (below_step (below_drew1 HB.out) hb); have BK2 := Aside0.mk (blk_below (blk_drew BK1.out) hb); have hs3 := Nat.lt_of_lt_of_le hs0 hb.size; have hs4 := Nat.lt_of_lt_of_le hs1 hb.size; have hs5 : w.heap.size < w2.heap.size := hs3; obtain ⟨A2, c2, e2⟩ := Kd.R_slice HO.out; subst e2; clear ho hb)
        | (go_at_call 45; (with_reducible refine (bytes_Clone.calls A0_0 c0_0 l0_0 l0_0 (w1.alloc (.cells #[.slice none 0 0, .int .i64 0] 44)).drew ?c1 HC.out HCL.out).mono ?_); (case c1 => exact Kd.C_drew (Kd.C_alloc (Kd.C_below HR.out HB.out) _)); rintro e w2 ⟨v, rfl, ho, hb⟩; have hz1 : w2.cell? ⟨w.heap.size, 1, none⟩ = some (.int .i64 a0_1) := blk_cell (blk_below (blk_drew (blk_alloc BK0.out _)) hb) 1; have HO := Aside0.mk (Kd.R_lower ho (below_size (below_drew1 (below_alloc HB.out _)))); have HB2 := Aside0.mk (below_step (below_drew1 (below_alloc HB.out _)) hb); have BK2 := Aside0.mk (blk_below (blk_drew (blk_alloc BK1.out _)) hb); have BKY := Aside0.mk (blk_below (blk_drew (blk_new w1 (.cells #[.slice none 0 0, .int .i64 0] 44))) hb); have hy2 : w2.cell? ⟨w1.heap.size, 0, none⟩ = some (.slice none 0 0) := blk_cell BKY.out 0; have hy3 : w2.cell? ⟨w1.heap.size, 1, none⟩ = some (.int .i64 0) := blk_cell BKY.out 1; have hy4 : w2.frozen? ⟨w1.heap.size, 0, none⟩ = false := blk_frozen BKY.out 0; have hy5 : w2.frozen? ⟨w1.heap.size, 1, none⟩ = false := blk_frozen BKY.out 1; obtain ⟨A2, c2, e2⟩ := Kd.R_slice HO.out; subst e2; clear ho hb))
      all_goals
        go_wp2_with fail
        go_meet
        case rel => first
          | exact ⟨w2.heap.size, .slice A2 l0_0.length c2, rfl, ⟨blk_new w2 _⟩, ⟨Kd.R_alloc HO.out _⟩, ⟨blk_alloc BK2.out _⟩, ⟨below_alloc HB2.out _⟩, ⟨hs4⟩⟩
          | exact ⟨w1.heap.size, .slice A2 l0_0.length c2, rfl, ⟨blk_put (cs := #[.slice A2 l0_0.length c2, .int .i64 0]) (blk_put (cs := #[.slice none 0 0, .int .i64 0]) BKY.out 0 _ rfl) 1 _ rfl⟩, ⟨Kd.R_mono (Kd.R_far (p := ⟨w1.heap.size, 1, none⟩) (Kd.R_far (p := ⟨w1.heap.size, 0, none⟩) (Kd.R_types HO.out BKY.out (by decide)) (fun _ hk => hk.2) _) (fun _ hk => hk.2) _) (fun _ _ => trivial)⟩, ⟨blk_far (p := ⟨w1.heap.size, 1, none⟩) (blk_far (p := ⟨w1.heap.size, 0, none⟩) BK2.out (Nat.ne_of_lt hs1) _) (Nat.ne_of_lt hs1) _⟩, ⟨(HB2.out.setCell (p := ⟨w1.heap.size, 0, none⟩) (below_size HB.out) _).setCell (p := ⟨w1.heap.size, 1, none⟩) (below_size HB.out) _⟩, ⟨hs1⟩⟩
    case rest =>
      clear BK0 BK1 hz0 hz1 hy0 hy1 hf0 hf1 HB
      obtain ⟨gy, v, rfl, BKY, HO, BK1, HB, HGY⟩ := hcut
      go_wp2_with (fail)
      refine (bits_add.calls w.heap.size gy w v l0_0 a0_1 a1 a2 q1 q2 wc HO.out BKY.out (by have := HGY.out; omega) HB.out HADD.out).mono ?_
      rintro e w3 ⟨v3, rfl, hg3, ho3, hb3, hk3⟩
      have BKY3 := Aside0.mk hg3
      have HO3 := Aside0.mk ho3
      have HB3 := Aside0.mk hb3
      have BK3 := Aside0.mk (hk3 _ _ _ (Nat.ne_of_lt HGY.out) (by decide) BK1.out)
      clear hg3 ho3 hb3 hk3 BKY HO HB BK1
      have hne := Nat.ne_of_lt HGY.out
      have hne' := Ne.symm hne
      obtain ⟨A3, c3, e3⟩ := Kd.R_slice HO3.out
      subst e3
      have hz0 : w3.cell? ⟨gy, 0, none⟩ = some (.slice A3 q1.length c3) := blk_cell BKY3.out 0
      have hz1 : w3.cell? ⟨gy, 1, none⟩ = some (.int .i64 q2) := blk_cell BKY3.out 1
      have hy0 : w3.cell? ⟨w.heap.size + 1, 0, none⟩ = some (.slice none 0 0) := blk_cell BK3.out 0
      have hy1 : w3.cell? ⟨w.heap.size + 1, 1, none⟩ = some (.int .i64 0) := blk_cell BK3.out 1
      have hf0 := blk_frozen BK3.out 0
      have hf1 := blk_frozen BK3.out 1
      go_wp2_with (fail)
      refine bodyPost_ret (results_ct rfl _ _ (w.heap.size + 1) 44 #[.slice A3 q1.length c3, .int .i64 q2] (0, 0) _ rfl (by (with_reducible repeat (first | refine blk_drewN ?_ _ | refine blk_drew ?_ | refine blk_alloc ?_ _)); refine blk_put (cs := #[.slice A3 q1.length c3, .int .i64 0]) ?_ 1 _ rfl; refine blk_put (cs := #[.slice none 0 0, .int .i64 0]) ?_ 0 _ rfl; exact BK3.out) Tryd.underlying44 rfl (by kernel_rfl)) rfl ?_
      exact ⟨_, rfl, Kd.R_mono (Kd.R_far (p := ⟨w.heap.size + 1, 1, none⟩) (Kd.R_far (p := ⟨w.heap.size + 1, 0, none⟩) (Kd.R_types HO3.out BK3.out (by decide)) (fun _ hk => hk.2) _) (fun _ hk => hk.2) _) (fun _ _ => trivial), (HB3.out.setCell (p := ⟨w.heap.size + 1, 0, none⟩) (by simp) _).setCell (p := ⟨w.heap.size + 1, 1, none⟩) (by simp) _⟩
end Go.Proofs.YtpeekkpdglfbbaaDoor.PA

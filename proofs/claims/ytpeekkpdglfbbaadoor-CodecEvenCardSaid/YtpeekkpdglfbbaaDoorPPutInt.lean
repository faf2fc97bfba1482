/- bits.PutInt's contract. -/
import Derived.Test.YtpeekkpdglfbbaaDoorPBits
import Derived.Deep.RegionWith
import Derived.Test.YtpeekkpdglfbbaaDoorPAf44
import Derived.Test.YtpeekkpdglfbbaaDoorPAf47
import Derived.Test.YtpeekkpdglfbbaaDoorPAf48
namespace Go.Proofs.YtpeekkpdglfbbaaDoor.PA
open Go.RowKit Go.Proofs.YtpeekkpdglfbbaaDoor.G Go.Proofs.YtpeekkpdglfbbaaDoorW.PrintWords Go.Proofs.YtpeekkpdglfbbaaDoorW.PrintLast Go.Proofs.YtpeekkpdglfbbaaDoorW.PrintMore
set_option linter.unusedVariables false
set_option linter.unusedSimpArgs false

theorem Drawn0.mk' (w : World) (n : Nat) : Drawn0 w (w.drewN n) := ⟨n, rfl⟩
def classN (n : Int) : Int := if n = 0 then 0 else if -64 ≤ n ∧ n < 64 then 1 else if -2048 ≤ n ∧ n < 2048 then 2 else if -2147483648 ≤ n ∧ n < 2147483648 then 3 else 4
def widthN (k : Int) : Int := if k = 1 then 7 else if k = 2 then 12 else if k = 3 then 32 else if k = 4 then 64 else 0
theorem classN_range (n : Int) : 0 ≤ classN n ∧ classN n ≤ 4 := by
  unfold classN
  repeat' split
  all_goals omega
theorem class_eq (n : Int) : bits_class.f 8 n = some (classN n) := by
  have e1 : wrap64 1 = 1 := by decide +kernel
  have e2 : wrap64 2 = 2 := by decide +kernel
  have e3 : wrap64 3 = 3 := by decide +kernel
  unfold bits_class.f classN
  by_cases a1 : n = 0 <;> by_cases a2 : -64 ≤ n <;> by_cases a3 : n < 64 <;> by_cases a4 : -2048 ≤ n <;> by_cases a5 : n < 2048 <;> by_cases a6 : -2147483648 ≤ n <;> by_cases a7 : n < 2147483648
  all_goals first
    | (exfalso; omega)
    | simp [bits_class.j0, bits_class.j1, e1, e2, e3, a1, a2, a3, a4, a5, a6, a7]
theorem width_eq (k : Int) : bits_width.f k = some (widthN k) := by
  unfold bits_width.f widthN
  repeat' split
  all_goals first | rfl | omega
def bits_PutInt.f (l : List Int) (a0 a1 : Int) : Option (List Int × Int × Int) :=
  if l.length ≤ 900000000 then (bits_Can.f l a0).bind fun b => if b = true then
    (bits_add.f l a0 (IntKind.u64.wrap (shl .u64 1 (classN a1) - 1)) (classN a1)).bind fun r =>
      (if classN a1 < 4 then bits_add.f r.1 r.2 0 1 else some r).bind fun s =>
        (bits_add.f s.1 s.2 (IntKind.u64.wrap a1) (widthN (classN a1))).bind fun t => some (t.1, t.2, 0)
    else some ([], 0, 1)
  else none

set_option maxHeartbeats 2000000 in
set_option maxRecDepth 100000 in
theorem bits_PutInt.calls (A0_0 : Option Addr) (c0_0 : Nat) (l0_0 : List Int) (a0_1 : Int) (a1 : Int) (r1 : List Int) (r2 : Int) (r3 : Int) (w : World) (hr0_0 : Kd.C (Kd.int .u8) w A0_0 l0_0.length l0_0) (hc0_0 : l0_0.length ≤ c0_0) (h : bits_PutInt.f l0_0 a0_1 a1 = some (r1, r2, r3)) :
    Calls Tryd.prog 39 #[.agg #[.slice A0_0 l0_0.length c0_0, .int .i64 a0_1], .int .i64 a1] w fun e w' => ∃ v0_ : Value, e = .returned (.tuple #[.agg #[v0_, .int .i64 r2], .int .i64 r3]) ∧ Kd.R (Kd.int .u8) 5 w' w.heap.size (fun _ => True) v0_ r1 ∧ Below w.heap.size w w' := by
  have hu24 := Tryd.underlying44
  unfold bits_PutInt.f at h
  split at h
  case isFalse => cases h
  case isTrue hlen =>
  obtain ⟨b, hcan, h⟩ := Option.bind_eq_some_iff.mp h
  have HR := Aside0.mk hr0_0
  have HC := Aside0.mk hc0_0
  have HL := Aside0.mk hlen
  have H := Aside0.mk h
  clear hr0_0 hc0_0 hlen h
  go_enter Tryd.func39, Tryd.ntmps39
  go_wp2_with (fail)
  refine (bits_Can.calls A0_0 c0_0 l0_0 a0_1 b _ ?c1 HC.out hcan).mono ?_
  case c1 => exact Kd.C_alloc (Kd.C_alloc HR.out _) _
  rintro e w1 ⟨rfl, hb⟩
  have BK0 := Aside0.mk (blk_below (g := w.heap.size) (o := .cells #[.slice A0_0 l0_0.length c0_0, .int .i64 a0_1] 44 (0, 0)) (blk_alloc (blk_new w _) _) hb)
  have BK1 := Aside0.mk (blk_below (g := w.heap.size + 1) (o := .cells #[.slice none 0 0, .int .i64 0] 44 (0, 0)) (by have := blk_new (w.alloc (.cells #[.slice A0_0 l0_0.length c0_0, .int .i64 a0_1] 44 (0, 0))) (.cells #[.slice none 0 0, .int .i64 0] 44 (0, 0)); rw [show (w.alloc (.cells #[.slice A0_0 l0_0.length c0_0, .int .i64 a0_1] 44 (0, 0))).heap.size = w.heap.size + 1 by simp] at this; exact this) hb)
  have HB := Aside0.mk (below_step (below_alloc (below_alloc (Below.refl w.heap.size w) _) _) hb)
  clear hb hcan
  have hz0 : w1.cell? ⟨w.heap.size, 0, none⟩ = some (.slice A0_0 l0_0.length c0_0) := blk_cell BK0.out 0
  have hz1 : w1.cell? ⟨w.heap.size, 1, none⟩ = some (.int .i64 a0_1) := blk_cell BK0.out 1
  have hy0 : w1.cell? ⟨w.heap.size + 1, 0, none⟩ = some (.slice none 0 0) := blk_cell BK1.out 0
  have hy1 : w1.cell? ⟨w.heap.size + 1, 1, none⟩ = some (.int .i64 0) := blk_cell BK1.out 1
  have hf0 := blk_frozen BK1.out 0
  have hf1 := blk_frozen BK1.out 1
  rcases Bool.eq_false_or_eq_true b with rfl | rfl
  case inr =>
    have hr : r1 = [] ∧ r2 = 0 ∧ r3 = 1 := by
      have h_ := H.out
      rw [if_neg (by decide)] at h_
      simp only [Option.some.injEq, Prod.mk.injEq] at h_; obtain ⟨rfl, rfl, rfl⟩ := h_; exact ⟨rfl, rfl, rfl⟩
    obtain ⟨rfl, rfl, rfl⟩ := hr
    clear H
    go_wp2_with (fail)
    refine bodyPost_ret (results_ct rfl _ _ (w.heap.size + 1) 44 #[.slice none 0 0, .int .i64 0] (0, 0) _ rfl (by (with_reducible repeat (first | refine blk_drewN ?_ _ | refine blk_drew ?_ | refine blk_alloc ?_ _)); refine blk_put (cs := #[.slice none 0 0, .int .i64 0]) ?_ 1 _ rfl; refine blk_put (cs := #[.slice none 0 0, .int .i64 0]) ?_ 0 _ rfl; exact BK1.out) Tryd.underlying44 rfl (by kernel_rfl)) rfl ?_
    exact ⟨_, rfl, Kd.R_nil _ _ _ _ _, (HB.out.setCell (p := ⟨w.heap.size + 1, 0, none⟩) (by simp) _).setCell (p := ⟨w.heap.size + 1, 1, none⟩) (by simp) _⟩
  case inl =>
    have h0_ := H.out
    rw [if_pos rfl] at h0_
    obtain ⟨⟨s1, s2⟩, hadd1, h1_⟩ := Option.bind_eq_some_iff.mp h0_
    obtain ⟨⟨s3, s4⟩, hadd2, h2_⟩ := Option.bind_eq_some_iff.mp h1_
    obtain ⟨⟨q1, q2⟩, hadd3, h3_⟩ := Option.bind_eq_some_iff.mp h2_
    simp only [Option.some.injEq, Prod.mk.injEq] at h3_
    obtain ⟨rfl, rfl, rfl⟩ := h3_
    have HADD1 := Aside0.mk hadd1
    have HADD2 := Aside0.mk hadd2
    have HADD3 := Aside0.mk hadd3
    clear H hadd1 hadd2 hadd3 h0_ h1_ h2_ h
    go_upto_region 3 with (fail)
    go_cut [6] (fun v6 wc => ∃ (gy : Nat) (v : Value), v6 = .pointer (some ⟨gy, 0, none⟩) ∧ Aside0 (wc.heap[gy]? = some (.cells #[v, .int .i64 a0_1] 44 (0, 0))) ∧ Aside0 (Kd.R (Kd.int .u8) 5 wc w.heap.size (fun _ => True) v l0_0) ∧ Aside0 (wc.heap[w.heap.size + 1]? = some (.cells #[.slice none 0 0, .int .i64 0] 44 (0, 0))) ∧ Aside0 (Below w.heap.size w wc) ∧ Aside0 (w.heap.size + 1 < gy))
    case first =>
      have hs0 := blk_lt BK0.out
      have hs1 := blk_lt BK1.out
      have HCL : Aside0 (bytes_Clone.f l0_0 = some l0_0) := ⟨by unfold bytes_Clone.f G.bytes_Clone.f; rw [if_pos (by have := HL.out; omega)]⟩
      go_region_with (first
        | (go_at_call 45; (with_reducible refine (bytes_Clone.calls A0_0 c0_0 l0_0 l0_0 w1.drew ?c1 HC.out HCL.out).mono ?_); (case c1 => exact Kd.C_drew (Kd.C_below HR.out HB.out)); rintro e w2 ⟨v, rfl, ho, hb⟩; have hz1 : w2.cell? ⟨w.heap.size, 1, none⟩ = some (.int .i64 a0_1) := blk_cell (blk_below (blk_drew BK0.out) hb) 1; have HO := Aside0.mk (Kd.R_lower ho (below_size (below_drew1 HB.out))); have HB2 := Aside0.mk (below_step (below_drew1 HB.out) hb); have BK2 := Aside0.mk (blk_below (blk_drew BK1.out) hb); have hs3 := Nat.lt_of_lt_of_le hs0 hb.size; have hs4 := Nat.lt_of_lt_of_le hs1 hb.size; have hs5 : w.heap.size < w2.heap.size := hs3; obtain ⟨A2, c2, e2⟩ := Kd.R_slice HO.out; subst e2; clear ho hb)
        | (go_at_call 45; (with_reducible refine (bytes_Clone.calls A0_0 c0_0 l0_0 l0_0 (w1.alloc (.cells #[.slice none 0 0, .int .i64 0] 44)).drew ?c1 HC.out HCL.out).mono ?_); (case c1 => exact Kd.C_drew (Kd.C_alloc (Kd.C_below HR.out HB.out) _)); rintro e w2 ⟨v, rfl, ho, hb⟩; have hz1 : w2.cell? ⟨w.heap.size, 1, none⟩ = some (.int .i64 a0_1) := blk_cell (blk_below (blk_drew (blk_alloc BK0.out _)) hb) 1; have HO := Aside0.mk (Kd.R_lower ho (below_size (below_drew1 (below_alloc HB.out _)))); have HB2 := Aside0.mk (below_step (below_drew1 (below_alloc HB.out _)) hb); have BK2 := Aside0.mk (blk_below (blk_drew (blk_alloc BK1.out _)) hb); have BKY := Aside0.mk (blk_below (blk_drew (blk_new w1 (.cells #[.slice none 0 0, .int .i64 0] 44))) hb); have hy2 : w2.cell? ⟨w1.heap.size, 0, none⟩ = some (.slice none 0 0) := blk_cell BKY.out 0; have hy3 : w2.cell? ⟨w1.heap.size, 1, none⟩ = some (.int .i64 0) := blk_cell BKY.out 1; have hy4 : w2.frozen? ⟨w1.heap.size, 0, none⟩ = false := blk_frozen BKY.out 0; have hy5 : w2.frozen? ⟨w1.heap.size, 1, none⟩ = false := blk_frozen BKY.out 1; obtain ⟨A2, c2, e2⟩ := Kd.R_slice HO.out; subst e2; clear ho hb))
      all_goals
        go_wp2_with fail
        go_meet
        case rel => first
          | exact ⟨w2.heap.size, .slice A2 l0_0.length c2, rfl, ⟨blk_new w2 _⟩, ⟨Kd.R_alloc HO.out _⟩, ⟨blk_alloc BK2.out _⟩, ⟨below_alloc HB2.out _⟩, ⟨hs4⟩⟩
          | exact ⟨w1.heap.size, .slice A2 l0_0.length c2, rfl, ⟨blk_put (cs := #[.slice A2 l0_0.length c2, .int .i64 0]) (blk_put (cs := #[.slice none 0 0, .int .i64 0]) BKY.out 0 _ rfl) 1 _ rfl⟩, ⟨Kd.R_mono (Kd.R_far (p := ⟨w1.heap.size, 1, none⟩) (Kd.R_far (p := ⟨w1.heap.size, 0, none⟩) (Kd.R_types HO.out BKY.out (by decide)) (fun _ hk => hk.2) _) (fun _ hk => hk.2) _) (fun _ _ => trivial)⟩, ⟨blk_far (p := ⟨w1.heap.size, 1, none⟩) (blk_far (p := ⟨w1.heap.size, 0, none⟩) BK2.out (Nat.ne_of_lt hs1) _) (Nat.ne_of_lt hs1) _⟩, ⟨(HB2.out.setCell (p := ⟨w1.heap.size, 0, none⟩) (below_size HB.out) _).setCell (p := ⟨w1.heap.size, 1, none⟩) (below_size HB.out) _⟩, ⟨hs1⟩⟩
    case rest =>
      clear BK0 BK1 hz0 hz1 hy0 hy1 hf0 hf1 HB
      obtain ⟨gy, v, rfl, BKY, HO, BK1, HB, HGY⟩ := hcut
      have hsz1 := blk_lt BK1.out
      go_wp2_with (fail)
      refine (bits_class.calls 8 a1 _ _ (class_eq a1)).mono ?_
      rintro e w3 ⟨rfl, ⟨n3, rfl⟩⟩
      have HCL := Aside0.mk (classN_range a1)
      have HA1 := HADD1
      generalize classN a1 = k at HCL HADD1 HADD2 HADD3 HA1
      have hk0 := eq_true HCL.out.1
      obtain ⟨S2, hS2⟩ : ∃ S, shl .u64 1 k = S := ⟨_, rfl⟩
      have hS2u : IntKind.u64.wrap (2 ^ min k.toNat 64) = S2 := by have h_ : IntKind.u64.wrap (1 * 2 ^ min k.toNat 64) = S2 := hS2; rw [Int.one_mul] at h_; exact h_
      have hS2v : k ≤ 64 → IntKind.u64.wrap (2 ^ k.toNat) = S2 := fun hle_ => by have h_ := shl_small (k := .u64) hS2 hle_; rw [Int.one_mul] at h_; exact h_
      replace HADD1 : Aside0 (bits_add.f l0_0 a0_1 (IntKind.u64.wrap (S2 - 1)) k = some (s1, s2)) := ⟨by rw [← hS2]; exact HADD1.out⟩
      clear HA1 hS2
      go_wp2_with (fail)
      refine (bits_add.calls w.heap.size gy w _ l0_0 a0_1 (IntKind.u64.wrap (S2 - 1)) k s1 s2 _ (Kd.R_drewN HO.out n3) (blk_drewN BKY.out n3) (by have := HGY.out; omega) (pw_below_drewN HB.out n3) HADD1.out).mono ?_
      rintro e w4 ⟨v4, rfl, hg3, ho3, hb3, hk3⟩
      have BKY4 := Aside0.mk hg3
      have HO4 := Aside0.mk ho3
      have HB4 := Aside0.mk hb3
      have BK4 := Aside0.mk (hk3 _ _ _ (Nat.ne_of_lt HGY.out) (by decide) (blk_drewN BK1.out n3))
      clear hg3 ho3 hb3 hk3
      clear BKY HO HB BK1 HADD1
      by_cases hk4 : k < 4
      · have hd4 : decide (k < 4) = true := decide_eq_true hk4
        replace HADD2 : Aside0 (bits_add.f s1 s2 0 1 = some (s3, s4)) := ⟨by have h_ := HADD2.out; rw [if_pos hk4] at h_; exact h_⟩
        clear hk4
        go_wp2_with (fail)
        refine (bits_add.calls w.heap.size gy w _ s1 s2 0 1 s3 s4 _ HO4.out BKY4.out (by have := HGY.out; omega) HB4.out HADD2.out).mono ?_
        rintro e w5 ⟨v5, rfl, hg3, ho3, hb3, hk3⟩
        have BKY5 := Aside0.mk hg3
        have HO5 := Aside0.mk ho3
        have HB5 := Aside0.mk hb3
        have BK5 := Aside0.mk (hk3 _ _ _ (Nat.ne_of_lt HGY.out) (by decide) BK4.out)
        clear hg3 ho3 hb3 hk3
        go_wp2_with (fail)
        refine (bits_width.calls k _ _ (width_eq k)).mono ?_
        rintro e wq ⟨rfl, ⟨nq, rfl⟩⟩
        go_wp2_with (fail)
        refine (bits_add.calls w.heap.size gy w _ s3 s4 (IntKind.u64.wrap a1) (widthN k) q1 q2 _ (Kd.R_drewN HO5.out _) (blk_drewN BKY5.out _) (by have := HGY.out; omega) (pw_below_drewN HB5.out _) HADD3.out).mono ?_
        rintro e w9 ⟨v9, rfl, hg3, ho3, hb3, hk3⟩
        have BKY9 := Aside0.mk hg3
        have HO9 := Aside0.mk ho3
        have HB9 := Aside0.mk hb3
        have BK9 := Aside0.mk (hk3 _ _ _ (Nat.ne_of_lt HGY.out) (by decide) (blk_drewN BK5.out _))
        clear hg3 ho3 hb3 hk3
        have hne := Nat.ne_of_lt HGY.out
        have hne' := Ne.symm hne
        obtain ⟨A3, c3, e3⟩ := Kd.R_slice HO9.out
        subst e3
        have hz0 : w9.cell? ⟨gy, 0, none⟩ = some (.slice A3 q1.length c3) := blk_cell BKY9.out 0
        have hz1 : w9.cell? ⟨gy, 1, none⟩ = some (.int .i64 q2) := blk_cell BKY9.out 1
        have hy0 : w9.cell? ⟨w.heap.size + 1, 0, none⟩ = some (.slice none 0 0) := blk_cell BK9.out 0
        have hy1 : w9.cell? ⟨w.heap.size + 1, 1, none⟩ = some (.int .i64 0) := blk_cell BK9.out 1
        have hf0 := blk_frozen BK9.out 0
        have hf1 := blk_frozen BK9.out 1
        go_wp2_with (fail)
        refine bodyPost_ret (results_ct rfl _ _ (w.heap.size + 1) 44 #[.slice A3 q1.length c3, .int .i64 q2] (0, 0) _ rfl (by (with_reducible repeat (first | refine blk_drewN ?_ _ | refine blk_drew ?_ | refine blk_alloc ?_ _)); refine blk_put (cs := #[.slice A3 q1.length c3, .int .i64 0]) ?_ 1 _ rfl; refine blk_put (cs := #[.slice none 0 0, .int .i64 0]) ?_ 0 _ rfl; exact BK9.out) Tryd.underlying44 rfl (by kernel_rfl)) rfl ?_
        exact ⟨_, rfl, Kd.R_mono (Kd.R_far (p := ⟨w.heap.size + 1, 1, none⟩) (Kd.R_far (p := ⟨w.heap.size + 1, 0, none⟩) (Kd.R_types HO9.out BK9.out (by decide)) (fun _ hk => hk.2) _) (fun _ hk => hk.2) _) (fun _ _ => trivial), (HB9.out.setCell (p := ⟨w.heap.size + 1, 0, none⟩) (by simp) _).setCell (p := ⟨w.heap.size + 1, 1, none⟩) (by simp) _⟩

      · have hd4 : decide (k < 4) = false := decide_eq_false hk4
        have he : s1 = s3 ∧ s2 = s4 := by have h_ := HADD2.out; rw [if_neg hk4] at h_; simpa using h_
        obtain ⟨rfl, rfl⟩ := he
        clear hk4 HADD2
        go_wp2_with (fail)
        refine (bits_width.calls k _ _ (width_eq k)).mono ?_
        rintro e wq ⟨rfl, ⟨nq, rfl⟩⟩
        go_wp2_with (fail)
        refine (bits_add.calls w.heap.size gy w _ s1 s2 (IntKind.u64.wrap a1) (widthN k) q1 q2 _ (Kd.R_drewN HO4.out _) (blk_drewN BKY4.out _) (by have := HGY.out; omega) (pw_below_drewN HB4.out _) HADD3.out).mono ?_
        rintro e w9 ⟨v9, rfl, hg3, ho3, hb3, hk3⟩
        have BKY9 := Aside0.mk hg3
        have HO9 := Aside0.mk ho3
        have HB9 := Aside0.mk hb3
        have BK9 := Aside0.mk (hk3 _ _ _ (Nat.ne_of_lt HGY.out) (by decide) (blk_drewN BK4.out _))
        clear hg3 ho3 hb3 hk3
        have hne := Nat.ne_of_lt HGY.out
        have hne' := Ne.symm hne
        obtain ⟨A3, c3, e3⟩ := Kd.R_slice HO9.out
        subst e3
        have hz0 : w9.cell? ⟨gy, 0, none⟩ = some (.slice A3 q1.length c3) := blk_cell BKY9.out 0
        have hz1 : w9.cell? ⟨gy, 1, none⟩ = some (.int .i64 q2) := blk_cell BKY9.out 1
        have hy0 : w9.cell? ⟨w.heap.size + 1, 0, none⟩ = some (.slice none 0 0) := blk_cell BK9.out 0
        have hy1 : w9.cell? ⟨w.heap.size + 1, 1, none⟩ = some (.int .i64 0) := blk_cell BK9.out 1
        have hf0 := blk_frozen BK9.out 0
        have hf1 := blk_frozen BK9.out 1
        go_wp2_with (fail)
        refine bodyPost_ret (results_ct rfl _ _ (w.heap.size + 1) 44 #[.slice A3 q1.length c3, .int .i64 q2] (0, 0) _ rfl (by (with_reducible repeat (first | refine blk_drewN ?_ _ | refine blk_drew ?_ | refine blk_alloc ?_ _)); refine blk_put (cs := #[.slice A3 q1.length c3, .int .i64 0]) ?_ 1 _ rfl; refine blk_put (cs := #[.slice none 0 0, .int .i64 0]) ?_ 0 _ rfl; exact BK9.out) Tryd.underlying44 rfl (by kernel_rfl)) rfl ?_
        exact ⟨_, rfl, Kd.R_mono (Kd.R_far (p := ⟨w.heap.size + 1, 1, none⟩) (Kd.R_far (p := ⟨w.heap.size + 1, 0, none⟩) (Kd.R_types HO9.out BK9.out (by decide)) (fun _ hk => hk.2) _) (fun _ hk => hk.2) _) (fun _ _ => trivial), (HB9.out.setCell (p := ⟨w.heap.size + 1, 0, none⟩) (by simp) _).setCell (p := ⟨w.heap.size + 1, 1, none⟩) (by simp) _⟩

end Go.Proofs.YtpeekkpdglfbbaaDoor.PA

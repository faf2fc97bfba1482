/- Lemmas and contracts that the law ChunkBack leans on (packed by a program of this session out of its texts and the print's words). -/
import Derived.Test.YtbgmnmjokdfmlaaDoorZB2
import Derived.Deep.DeepMust
import Derived.Test.YtbgmnmjokdfmlaaDoorZB6
import Derived.Test.YtbgmnmjokdfmlaaDoorZB4
import Derived.WalkMore
import Derived.Deep.RegionHeld3
import Derived.RangeFuncNested
import Derived.RangeFuncBound
import Derived.RangeFuncCalls
import Derived.RangeFuncLeaves
import Derived.Shelf.Abstract
import Derived.Shelf.RegionOpen
import Derived.WalkKit
import Derived.OwnWalkIn
import Derived.TacticsInMore
import Derived.LoopNIn
import Derived.LoopIn
import Derived.Lib.QuietBelowIn
import Derived.OrdersHeld
import Derived.StillTailTactics
import Derived.OrdersIn
import Derived.RangeFuncKeeps
import Derived.Tactics2
import Derived.RegionTactic
import Derived.RangeFuncFrom
import Derived.Deep.LoopGhost
import Derived.BigRegion
set_option linter.unusedVariables false
set_option linter.unusedSimpArgs false
namespace Go.Proofs.YtbgmnmjokdfmlaaDoor.PA
open Go.RowKit Go.Proofs.YtbgmnmjokdfmlaaDoor.G Go.Proofs.YtbgmnmjokdfmlaaDoorW.PrintWords Go.Proofs.YtbgmnmjokdfmlaaDoorW.PrintLast Go.Proofs.YtbgmnmjokdfmlaaDoorW.PrintMore
theorem infoN5 : ∃ i, Tryd.prog.info? 5 = some i ∧ i.size = 1 := by
  obtain ⟨i, hi, hz⟩ := Option.map_eq_some_iff.1 infoU8
  simp only [Prod.mk.injEq] at hz
  exact ⟨i, hi, hz.2.1⟩
theorem cutB (A : Option Addr) (c : Nat) (xs : List Int) (m : Nat) (hm : m ≤ xs.length) (hc : xs.length ≤ c) :
    ∃ (A' : Option Addr) (c' : Nat) (r : List Int), Aside0 (r = xs.drop m) ∧ Aside0 (∀ w : World, Kd.C (Kd.int .u8) w A xs.length xs → Kd.C (Kd.int .u8) w A' r.length r) ∧ r.length ≤ c' ∧
      ∀ i : Int, i = (m : Int) → ∀ W : World, (Instr.slice 22 (.slice A xs.length c) (some (.int .i64 i)) none none).run Tryd.prog W = .ok (.slice A' r.length c') W := by
  obtain ⟨i0, hi, hsz⟩ := infoN5
  refine ⟨if c = m then A else A.map (·.add (m * (Kd.int .u8).sz)), c - m, xs.drop m, ⟨rfl⟩, ⟨fun w h => Kd.C_drop h hm hc⟩, by rw [List.length_drop]; omega, fun i hi' W => ?_⟩
  subst hi'
  have hu := Tryd.underlying22
  have hel : Tryd.prog.elem 22 = 5 := by simp [Program.elem, hu]
  have hu' : Tryd.prog.underlying 22 = some (.slice (Tryd.prog.elem 22)) := by rw [hel]; exact hu
  rw [run_slice_l W 22 A xs.length c hu' .i64 (m : Int) (Int.natCast_nonneg _) (by omega), hel]
  have h1 : (Kd.int .u8).sz = 1 := rfl
  simp [sizeOf, typeInfo, hi, hsz, sliced, Result.andThen, h1]
theorem midB (A : Option Addr) (c : Nat) (xs : List Int) (lo hi : Nat) (h1 : lo ≤ hi) (h2 : hi ≤ xs.length) (hc : xs.length ≤ c) :
    ∃ (A' : Option Addr) (c' : Nat) (r : List Int), Aside0 (r = (xs.take hi).drop lo) ∧ Aside0 (∀ w : World, Kd.C (Kd.int .u8) w A xs.length xs → Kd.C (Kd.int .u8) w A' r.length r) ∧ r.length ≤ c' ∧
      ∀ i j : Int, i = (lo : Int) → j = (hi : Int) → ∀ W : World, (Instr.slice 22 (.slice A xs.length c) (some (.int .i64 i)) (some (.int .i64 j)) none).run Tryd.prog W = .ok (.slice A' r.length c') W := by
  obtain ⟨i0, hi0, hsz⟩ := infoN5
  refine ⟨if c = lo then A else A.map (·.add (lo * (Kd.int .u8).sz)), c - lo, (xs.take hi).drop lo, ⟨rfl⟩, ⟨fun w h => Kd.C_mid h h1 h2 hc⟩, by rw [List.length_drop, List.length_take]; omega, fun i j hi' hj' W => ?_⟩
  subst hi' hj'
  have h := cut_mid (P := Tryd.prog) 22 5 .i64 .i64 Tryd.underlying22 hi0 1 hsz A xs.length c (lo : Int) (hi : Int) (by omega) (by omega) (by omega) hc W
  rw [h]
  have h1 : (Kd.int .u8).sz = 1 := rfl
  rw [h1, List.length_drop, List.length_take]
  simp only [Int.toNat_natCast]
  rw [Nat.min_eq_left h2]
theorem run_makeL (kl : IntKind) (n : Nat) (hn : n ≤ 1000000) : ∀ W : World, (Instr.makeSlice 27 (.int kl (n : Int)) (.int kl (n : Int))).run Tryd.prog W = .ok (.slice (some ⟨W.heap.size, 0, none⟩) n n) (W.alloc (.cells (madeCells (Value.agg #[.string ⟨#[]⟩, .string ⟨#[]⟩]).cells (n * 2)) 65)) := by
  intro W
  obtain ⟨i0, hi, hz⟩ := Option.map_eq_some_iff.1 info65
  simp only [Prod.mk.injEq] at hz
  obtain ⟨hz0, hz1, hz2⟩ := hz
  have hr := run_make (P := Tryd.prog) W 27 65 i0 _ Tryd.underlying27 hi hz0 kl kl (n : Int) (n : Int) (by omega) (by omega)
    (by
      have h3 : ((i0.bytes * n : Nat) : Int) ≤ 281474976710656 := by rw [hz2]; omega
      rwa [Int.natCast_mul] at h3) (by omega)
  simp only [Int.toNat_natCast] at hr
  rw [hz1] at hr
  exact hr
theorem R_madeL (W : World) (base n : Nat) (hb : base ≤ W.heap.size) (hn : n ≤ 1000000) : Kd.R k65 65 (W.alloc (.cells (madeCells (Value.agg #[.string ⟨#[]⟩, .string ⟨#[]⟩]).cells (n * 2)) 65)) base (fun _ => True) (.slice (some ⟨W.heap.size, 0, none⟩) n n) (List.replicate n z65) := by
  have hm : ∀ (ok : Nat → Prop), Reps (k65.M (W.alloc (.cells (madeCells (Value.agg #[.string ⟨#[]⟩, .string ⟨#[]⟩]).cells (n * 2)) 65)) base ok) 2 (List.replicate n z65) (madeCells (Value.agg #[.string ⟨#[]⟩, .string ⟨#[]⟩]).cells (n * 2)).toList := fun ok =>
    Kd.reps_made (size := 2) rfl (by decide) (k65_mkM _ _ _ z65) n
  have h2 := World.ownsRow_lit (base := base) (e := 65) (size := 2) W (madeCells (Value.agg #[.string ⟨#[]⟩, .string ⟨#[]⟩]).cells (n * 2)) n hb (by simp only [maxLen]; omega) (by simp [size_madeCells])
  exact ⟨fun _ _ => trivial, _, by rw [List.length_replicate]; exact h2, hm _⟩
end Go.Proofs.YtbgmnmjokdfmlaaDoor.PA
namespace Go.Proofs.YtbgmnmjokdfmlaaDoor.PA
open Go.RowKit Go.Proofs.YtbgmnmjokdfmlaaDoor.G Go.Proofs.YtbgmnmjokdfmlaaDoorW.PrintWords Go.Proofs.YtbgmnmjokdfmlaaDoorW.PrintLast Go.Proofs.YtbgmnmjokdfmlaaDoorW.PrintMore
def DecPost (w : World) (b : List Int) (e : Ending) (w' : World) : Prop := ∃ v1 v2 : Value, e = .returned (.tuple #[v1, v2, .int .i64 (decLb b).2.2]) ∧ Kd.R k65 65 w' w.heap.size (fun _ => True) v1 (decLb b).1 ∧ Kd.R (Kd.int .u8) 5 w' w.heap.size (fun _ => True) v2 (decLb b).2.1 ∧ Below w.heap.size w w'
theorem DecPost.bad {w w' : World} {b : List Int} {q : Int} (h : decLb b = ([], [], q)) (hb : Below w.heap.size w w') : DecPost w b (.returned (.tuple #[.slice none 0 0, .slice none 0 0, .int .i64 q])) w' := by
  refine ⟨_, _, by rw [h], ?_, ?_, hb⟩
  · rw [h]; exact Kd.R_nil _ _ _ _ _
  · rw [h]; exact Kd.R_nil _ _ _ _ _
theorem DecPost.nil {w w' : World} {b : List Int} (h : b.length = 0) (hb : Below w.heap.size w w') : DecPost w b (.returned (.tuple #[.slice none 0 0, .slice none 0 0, .int .i64 3])) w' :=
  DecPost.bad (by rw [List.eq_nil_of_length_eq_zero h]; rfl) hb
theorem byte_nat {b : List Int} (h : ∀ x ∈ b, 0 ≤ x ∧ x < 256) (h0 : 0 < b.length) : ∃ n : Nat, rd b 0 = (n : Int) ∧ n < 256 := by
  have := h _ (rd_mem b 0 h0)
  rw [show ((0 : Nat) : Int) = 0 from rfl] at this
  exact ⟨(rd b 0).toNat, by omega, by omega⟩
theorem cell0 {w : World} {A : Option Addr} {xs : List Int} (h : Kd.C (Kd.int .u8) w A xs.length xs) (h0 : 0 < xs.length) : ∃ ad, A = some ad ∧ w.cell? ad = some (.int .u8 (rd xs 0)) := by
  obtain ⟨ad, cb, rfl, _, hKb, hcb⟩ := Kd.C_get h (0 : Int) 0 (by omega) (by omega)
  refine ⟨ad, rfl, ?_⟩
  have := hcb 0 (.int .u8 (rd xs 0)) (by rw [show cb = [Value.int .u8 (rd xs 0)] from hKb]; rfl)
  simpa [Addr.add] using this
theorem set_mid (l : List S65) (d : Nat) (x y : S65) (k : Nat) (hk : l.length = k) : (l ++ x :: List.replicate d z65).set ((k : Int)).toNat y = l ++ y :: List.replicate d z65 := by
  rw [Int.toNat_natCast, ← hk, List.set_append_right _ _ (Nat.le_refl _), Nat.sub_self]
  rfl
theorem rd_mid (l : List S65) (d : Nat) (x : S65) (k : Nat) (hk : l.length = k) : rd_T65 (l ++ x :: List.replicate d z65) (k : Int) = x := by
  subst hk
  simp [rd_T65, List.getD_eq_getElem?_getD]
theorem row_frozen {α : Type} {d : Kd α} {e base n cap g : Nat} {ok : Nat → Prop} {w : World} {xs : List α} (h : Kd.R d e w base ok (.slice (some ⟨g, 0, none⟩) n cap) xs) (i : Nat) : w.frozen? ⟨g, i, none⟩ = false := by
  obtain ⟨cells, hc⟩ := Kd.R_typed h g (by simp [Value.ownBlock])
  exact blk_frozen hc i
theorem seg_out {W wS : World} {base g k : Nat} {ok : Nat → Prop} {u v : Value} {xs : List S65} (j : Nat) (hs : (W.setCell ⟨g, k * 2 + j, none⟩ u).drew = wS) (h : Kd.R k65 65 (W.drew.setCells g ((k : Int).toNat * k65.sz + j) [u]) base ok v xs) : Kd.R k65 65 wS base ok v xs := by
  subst hs
  rw [Int.toNat_natCast] at h
  exact h
theorem R_past {α : Type} {d : Kd α} {e base : Nat} {w1 w2 : World} {v : Value} {xs : List α} {o : Obj} (h : Kd.R d e w1 base (fun _ => True) v xs) (hg : (w1.alloc o).grownBy w2 (some w1.heap.size)) : Kd.R d e w2 base (fun _ => True) v xs :=
  Kd.R_mono (Kd.R_grown (Kd.R_below (Kd.R_bound h) (below_alloc (Below.refl _ _) o)) hg (fun k hk he => by injection he with he; have := hk.2.2.1; omega)) (fun _ _ => trivial)
set_option maxHeartbeats 8000000 in
set_option maxRecDepth 100000 in
theorem decLb.calls (A : Option Addr) (c n : Nat) (b : List Int) (w : World) (hn : b.length = n) (hr : Kd.C (Kd.int .u8) w A n b) (hc : n ≤ c) (hok : okB b = true) (hlen : n ≤ 1000000) :
    Calls Tryd.prog 60 #[.slice A n c] w (DecPost w b) := by
  subst hn
  by_cases h0 : b.length = 0
  · have HE := Aside0.mk (fun W => DecPost.nil (w := w) (w' := W) (b := b) h0)
    have h1 : ((b.length : Int) == 0) = true := beq_iff_eq.2 (by omega)
    clear h0 hr hc hok hlen
    go_enter Tryd.func60, Tryd.ntmps60
    go_wp2
    refine bodyPost_ret (results_tmp3 rfl _ _ _) rfl ?_
    exact HE.out _ (Below.refl _ _)
  · have hp : 0 < b.length := by omega
    have h1 : ((b.length : Int) == 0) = false := beq_eq_false_iff_ne.2 (by omega)
    obtain ⟨n, hn, hn256⟩ := byte_nat (okB_iff.1 hok) hp
    obtain ⟨A1, c1, r0, HR0, HC0, hc1, hcut⟩ := cutB A c b 1 hp hc
    have hcut1 := hcut 1 rfl
    have HRB := Aside0.mk (HC0.out w hr)
    have HBY : Aside0 (∀ x ∈ r0, 0 ≤ x ∧ x < 256) := ⟨fun x hx => okB_iff.1 hok x (by rw [HR0.out] at hx; exact List.mem_of_mem_drop hx)⟩
    have HRL : Aside0 (r0.length ≤ 1000000) := ⟨by rw [HR0.out, List.length_drop]; omega⟩
    have hml := fun W => run_makeL .u8 n (by omega) W
    have HSH : Aside0 (decLN r0 n = none → decLb b = ([], [], 3)) := ⟨fun h => decLb_short hp hn (by rw [← HR0.out]; exact h)⟩
    have HFO : Aside0 (∀ l r', decLN r0 n = some (l, r') → canL l = false → decLb b = ([], [], 5)) := ⟨fun l r' h hc => decLb_form hp hn (by rw [← HR0.out]; exact h) hc⟩
    have HGO : Aside0 (∀ l r', decLN r0 n = some (l, r') → canL l = true → decLb b = (l, r', 0)) := ⟨fun l r' h hc => decLb_ok hp hn (by rw [← HR0.out]; exact h) hc⟩
    have hl1 : (0 : Int) < (b.length : Int) := by omega
    obtain ⟨ad, rfl, hcell⟩ := cell0 hr hp
    rw [hn] at hcell
    have HCL := Aside0.mk hc1
    clear hcut h0 hok hn hlen HC0 HR0 hr hc hc1
    go_enter Tryd.func60, Tryd.ntmps60
    go_wp2
    have HM := Aside0.mk (R_madeL w w.heap.size n (Nat.le_refl _) (by omega))
    have HB0 := Aside0.mk (below_alloc (Below.refl w.heap.size w) (.cells (madeCells (Value.agg #[.string ⟨#[]⟩, .string ⟨#[]⟩]).cells (n * 2)) 65))
    go_loopw [0, 21] (fun s i wr => ∃ (k : Nat) (A' : Option Addr) (c' : Nat) (r : List Int) (l : List S65), k ≤ n ∧ i = .int .i64 k ∧ s = .slice A' r.length c' ∧ Aside0 (decLN r0 k = some (l, r)) ∧ Aside0 (r.length ≤ c') ∧ Aside0 (Kd.C (Kd.int .u8) w A' r.length r) ∧ Aside0 (Kd.R k65 65 wr w.heap.size (fun _ => True) (.slice (some ⟨w.heap.size, 0, none⟩) n n) (l ++ List.replicate (n - k) z65)) ∧ Aside0 (Below w.heap.size w wr)) (fun _ i _ => n - (intOf i).toNat)
    case atStart => exact ⟨0, A1, c1, r0, [], Nat.zero_le _, rfl, rfl, ⟨rfl⟩, HCL, HRB, HM, HB0⟩
    case round =>
      clear HM HB0
      obtain ⟨k, A', c', r, l, hk, rfl, rfl, HD, HCC, HCR, HV, HB⟩ := hrel
      have hlk := (decLN_len HD.out).1
      have HRL2 : Aside0 (r.length ≤ 1000000) := ⟨by have := (decLN_len HD.out).2; have := HRL.out; omega⟩
      by_cases hlt : k < n
      · have HLK := Aside0.mk hlk
        have HKN := Aside0.mk hlt
        have hki : (k : Int) < (n : Int) := by omega
        have hk0 : (0 : Int) ≤ (k : Int) := by omega
        obtain ⟨d, hd⟩ : ∃ d, n - k = d + 1 := ⟨n - k - 1, by omega⟩
        have HDD : Aside0 (n - (k + 1) = d) := ⟨by omega⟩
        rw [hd, List.replicate_succ] at HV
        have HBX := Aside0.mk (fun x hx => HBY.out x (decLN_mem HD.out x hx))
        have HST := Aside0.mk (fun (h : decLN r0 (k + 1) = none) => HSH.out (decLN_none hlt h))
        clear hlk hd hlt
        go_wp2_with fail
        go_quiet (fail)
        generalize hwq : wr.drewN nq = wq
        have HVq : Aside0 (Kd.R k65 65 wq w.heap.size (fun _ => True) (.slice (some ⟨w.heap.size, 0, none⟩) n n) (l ++ z65 :: List.replicate d z65)) := ⟨hwq ▸ HV.out⟩
        have HBq : Aside0 (Below w.heap.size w wq) := ⟨hwq ▸ pw_below_drewN HB.out _⟩
        clear hwq HV HB
        go_wp2_with fail
        have hi0 := fun W => idx_two (P := Tryd.prog) 125 124 Tryd.underlying125 (fun W => by kernel_rfl) (fun W => by kernel_rfl) (.pointer (some ⟨w.heap.size, k * 2, none⟩)) (.pointer (some ⟨w.heap.size, k * 2 + 1, none⟩)) 0 _ (.inl ⟨rfl, rfl⟩) W
        have hi1 := fun W => idx_two (P := Tryd.prog) 125 124 Tryd.underlying125 (fun W => by kernel_rfl) (fun W => by kernel_rfl) (.pointer (some ⟨w.heap.size, k * 2, none⟩)) (.pointer (some ⟨w.heap.size, k * 2 + 1, none⟩)) 1 _ (.inr ⟨rfl, rfl⟩) W
        refine wp_loop_rounds 3 ?_
        rw [rounds_succ]
        by_cases ha1 : r.length = 0
        · have HE : Aside0 (decLb b = ([], [], 3)) := ⟨HST.out (decLN_bad1 HD.out (pieceD_nil ha1))⟩
          have e1 : ((r.length : Int) == 0) = true := beq_iff_eq.2 (by omega)
          clear ha1
          go_wp2
          refine bodyPost_ret (results_tmp3 rfl _ _ _) rfl ?_
          exact DecPost.bad HE.out HBq.out
        · have e1 : ((r.length : Int) == 0) = false := beq_eq_false_iff_ne.2 (by omega)
          have hp1 : 0 < r.length := by omega
          obtain ⟨m1, hm1, hm2561⟩ := byte_nat HBX.out hp1
          obtain ⟨ad1, hA1, hcl1⟩ := cell0 (Kd.C_below HCR.out HBq.out) hp1
          rw [hm1] at hcl1
          have hl1 : (0 : Int) < (r.length : Int) := by omega
          have hrl1 := HRL2.out
          by_cases hs1 : (r.length : Int) - 1 < (m1 : Int)
          · have HE : Aside0 (decLb b = ([], [], 3)) := ⟨HST.out (decLN_bad1 HD.out (pieceD_short hp1 (by rw [hm1]; omega) (by rw [hm1]; exact hs1)))⟩
            subst hA1
            clear ha1 hp1 hm1
            go_wp2
            refine bodyPost_ret (results_tmp3 rfl _ _ _) rfl ?_
            exact DecPost.bad HE.out HBq.out
          · have hps := pieceD_ok hp1 hm1 (by omega)
            obtain ⟨AM1, cM1, rM1, HRM1, HCM1, hcM1, hmid1⟩ := midB A' c' r 1 (1 + m1) (by omega) (by omega) HCC.out
            obtain ⟨AX1, cX1, rX1, HRX1, HCX1, hcX1, hcut1⟩ := cutB A' c' r (1 + m1) (by omega) HCC.out
            rw [← HRM1.out, ← HRX1.out] at hps
            have HPS1 := Aside0.mk hps
            have hmid1_ := fun W => hmid1 1 (1 + (m1 : Int)) rfl (by omega) W
            have hcut1_ := fun W => hcut1 (1 + (m1 : Int)) (by omega) W
            have HMC1 := Aside0.mk (fun W (hb : Below w.heap.size w W) => Kd.C_string (P := Tryd.prog) (A := AM1) (c := cM1) Tryd.underlying22 Tryd.underlying5 Tryd.underlying9 (HCM1.out W (Kd.C_below HCR.out hb)))
            have HCRX1 := Aside0.mk (HCX1.out w HCR.out)
            have HCCX1 := Aside0.mk hcX1
            have HBXX1 : Aside0 (∀ x ∈ rX1, 0 ≤ x ∧ x < 256) := ⟨fun x hx => HBX.out x (by rw [HRX1.out] at hx; exact List.mem_of_mem_drop hx)⟩
            have HRLX1 : Aside0 (rX1.length ≤ 1000000) := ⟨by rw [HRX1.out, List.length_drop]; omega⟩
            have hw1 : IntKind.i64.wrap (1 + (m1 : Int)) = 1 + (m1 : Int) := by rw [IntKind.wrap_i64]; omega
            have hs1_ : decide ((r.length : Int) - 1 < (m1 : Int)) = false := decide_eq_false hs1
            clear hps hmid1 hcut1 HCM1 HRM1 HRX1 HCX1 hcX1 hcM1 ha1 hp1 hm1 hs1
            subst hA1
            go_wp2_with fail
            have hat1 := at_T65 (Kd.R_reads' HVq.out).2.2 (k : Int) (by omega) (by rw [List.length_append, List.length_cons, HLK.out]; omega)
            rw [rd_mid _ _ _ _ HLK.out] at hat1
            obtain ⟨adv1, hadv1, q01, q11⟩ := hat1
            obtain rfl := Option.some.inj hadv1
            rw [Int.toNat_natCast, add_plain] at q01 q11
            have hfz1 := row_frozen HVq.out 0
            have hfy1 := row_frozen HVq.out (k * 2)
            have HQ01 := Aside0.mk q01
            have HQ11 := Aside0.mk q11
            have HSG1 := Aside0.mk (Kd.R_seg (i := (k : Int)) (j := 0) (x' := (⟨strOfNums rM1, ⟨#[]⟩⟩ : S65)) (seg := [.string (strOfNums rM1)]) (c := [.string ⟨#[]⟩, .string ⟨#[]⟩]) (okp := fun _ => False) (W := wq.drew) (show Kd.R _ _ wq.drew _ _ _ _ from HVq.out) hk0 hki rfl (by intro j u hj; rw [Int.toNat_natCast]; match j, hj with | 0, hj => exact (Option.some.inj hj) ▸ HQ01.out | 1, hj => exact (Option.some.inj hj) ▸ HQ11.out | z + 2, hj => simp at hj) (by show 0 + 1 ≤ 2; decide) (k65_mkM _ _ _ (⟨strOfNums rM1, ⟨#[]⟩⟩ : S65)) (fun _ hk => hk.elim))
            have hcv1 := HMC1.out wq.drew (below_drew1 HBq.out)
            clear hadv1 hfz1
            go_wp2_with fail
            go_region
            go_wp2_with fail
            generalize hwS1 : (World.setCell wq ⟨w.heap.size, k * 2, none⟩ (.string (strOfNums rM1))).drew = wS1
            have HVs1 := Aside0.mk (seg_out 0 hwS1 HSG1.out.1)
            have HBs1 : Aside0 (Below w.heap.size w wS1) := ⟨hwS1 ▸ below_drew1 (HBq.out.setCell (p := ⟨w.heap.size, k * 2, none⟩) (Nat.le_refl _) _)⟩
            rw [set_mid _ _ _ _ _ HLK.out] at HVs1
            clear hwS1 hcv1 q01 q11 hfy1 HSG1 hmid1_ hcut1_ hcl1
            rw [rounds_succ]
            by_cases ha2 : rX1.length = 0
            · have HE : Aside0 (decLb b = ([], [], 3)) := ⟨HST.out (decLN_bad2 HD.out HPS1.out (pieceD_nil ha2))⟩
              have e1 : ((rX1.length : Int) == 0) = true := beq_iff_eq.2 (by omega)
              clear ha2
              go_wp2
              refine bodyPost_ret (results_tmp3 rfl _ _ _) rfl ?_
              exact DecPost.bad HE.out HBs1.out
            · have e1 : ((rX1.length : Int) == 0) = false := beq_eq_false_iff_ne.2 (by omega)
              have hp2 : 0 < rX1.length := by omega
              obtain ⟨m2, hm2, hm2562⟩ := byte_nat HBXX1.out hp2
              obtain ⟨ad2, hA2, hcl2⟩ := cell0 (Kd.C_below HCRX1.out HBs1.out) hp2
              rw [hm2] at hcl2
              have hl2 : (0 : Int) < (rX1.length : Int) := by omega
              have hrl2 := HRLX1.out
              by_cases hs2 : (rX1.length : Int) - 1 < (m2 : Int)
              · have HE : Aside0 (decLb b = ([], [], 3)) := ⟨HST.out (decLN_bad2 HD.out HPS1.out (pieceD_short hp2 (by rw [hm2]; omega) (by rw [hm2]; exact hs2)))⟩
                subst hA2
                clear ha2 hp2 hm2
                go_wp2
                refine bodyPost_ret (results_tmp3 rfl _ _ _) rfl ?_
                exact DecPost.bad HE.out HBs1.out
              · have hps := pieceD_ok hp2 hm2 (by omega)
                obtain ⟨AM2, cM2, rM2, HRM2, HCM2, hcM2, hmid2⟩ := midB AX1 cX1 rX1 1 (1 + m2) (by omega) (by omega) HCCX1.out
                obtain ⟨AX2, cX2, rX2, HRX2, HCX2, hcX2, hcut2⟩ := cutB AX1 cX1 rX1 (1 + m2) (by omega) HCCX1.out
                rw [← HRM2.out, ← HRX2.out] at hps
                have HPS2 := Aside0.mk hps
                have hmid2_ := fun W => hmid2 1 (1 + (m2 : Int)) rfl (by omega) W
                have hcut2_ := fun W => hcut2 (1 + (m2 : Int)) (by omega) W
                have HMC2 := Aside0.mk (fun W (hb : Below w.heap.size w W) => Kd.C_string (P := Tryd.prog) (A := AM2) (c := cM2) Tryd.underlying22 Tryd.underlying5 Tryd.underlying9 (HCM2.out W (Kd.C_below HCRX1.out hb)))
                have HCRX2 := Aside0.mk (HCX2.out w HCRX1.out)
                have HCCX2 := Aside0.mk hcX2
                have HBXX2 : Aside0 (∀ x ∈ rX2, 0 ≤ x ∧ x < 256) := ⟨fun x hx => HBXX1.out x (by rw [HRX2.out] at hx; exact List.mem_of_mem_drop hx)⟩
                have HRLX2 : Aside0 (rX2.length ≤ 1000000) := ⟨by rw [HRX2.out, List.length_drop]; omega⟩
                have hw2 : IntKind.i64.wrap (1 + (m2 : Int)) = 1 + (m2 : Int) := by rw [IntKind.wrap_i64]; omega
                have hs2_ : decide ((rX1.length : Int) - 1 < (m2 : Int)) = false := decide_eq_false hs2
                clear hps hmid2 hcut2 HCM2 HRM2 HRX2 HCX2 hcX2 hcM2 ha2 hp2 hm2 hs2
                subst hA2
                go_wp2_with fail
                have hat2 := at_T65 (Kd.R_reads' HVs1.out).2.2 (k : Int) (by omega) (by rw [List.length_append, List.length_cons, HLK.out]; omega)
                rw [rd_mid _ _ _ _ HLK.out] at hat2
                obtain ⟨adv2, hadv2, q02, q12⟩ := hat2
                obtain rfl := Option.some.inj hadv2
                rw [Int.toNat_natCast, add_plain] at q02 q12
                have hfz2 := row_frozen HVs1.out 0
                have hfy2 := row_frozen HVs1.out (k * 2 + 1)
                have HQ02 := Aside0.mk q02
                have HQ12 := Aside0.mk q12
                have HSG2 := Aside0.mk (Kd.R_seg (i := (k : Int)) (j := 1) (x' := (⟨strOfNums rM1, strOfNums rM2⟩ : S65)) (seg := [.string (strOfNums rM2)]) (c := [.string (strOfNums rM1), .string ⟨#[]⟩]) (okp := fun _ => False) (W := wS1.drew) (show Kd.R _ _ wS1.drew _ _ _ _ from HVs1.out) hk0 hki rfl (by intro j u hj; rw [Int.toNat_natCast]; match j, hj with | 0, hj => exact (Option.some.inj hj) ▸ HQ02.out | 1, hj => exact (Option.some.inj hj) ▸ HQ12.out | z + 2, hj => simp at hj) (by show 1 + 1 ≤ 2; decide) (k65_mkM _ _ _ (⟨strOfNums rM1, strOfNums rM2⟩ : S65)) (fun _ hk => hk.elim))
                have hcv2 := HMC2.out wS1.drew (below_drew1 HBs1.out)
                clear hadv2 hfz2
                go_wp2_with fail
                go_region
                go_wp2_with fail
                generalize hwS2 : (World.setCell wS1 ⟨w.heap.size, k * 2 + 1, none⟩ (.string (strOfNums rM2))).drew = wS2
                have HVs2 := Aside0.mk (seg_out 1 hwS2 HSG2.out.1)
                have HBs2 : Aside0 (Below w.heap.size w wS2) := ⟨hwS2 ▸ below_drew1 (HBs1.out.setCell (p := ⟨w.heap.size, k * 2 + 1, none⟩) (Nat.le_refl _) _)⟩
                rw [set_mid _ _ _ _ _ HLK.out] at HVs2
                clear hwS2 hcv2 q02 q12 hfy2 HSG2 hmid2_ hcut2_ hcl2
                rw [rounds_succ]
                go_wp2
                go_roundw
                case rel => exact ⟨k + 1, AX2, cX2, rX2, l ++ [(⟨strOfNums rM1, strOfNums rM2⟩ : S65)], by omega, by go_num, rfl, ⟨decLN_step HD.out HPS1.out HPS2.out⟩, HCCX2, HCRX2, ⟨by rw [HDD.out, List.append_assoc]; exact HVs2.out⟩, HBs2⟩
                case measure => simp [intOf]; omega
      · obtain rfl : k = n := by omega
        rw [Nat.sub_self, List.replicate_zero, List.append_nil] at HV
        cases hcan : canL l with
        | false =>
          have HE := Aside0.mk (HFO.out l r HD.out hcan)
          have HC : Aside0 (∀ c, l.length ≤ c → Calls Tryd.prog 38 #[.slice (some ⟨w.heap.size, 0, none⟩) k c] wr fun e w' => e = .returned (.bool false) ∧ Below wr.heap.size wr w') := ⟨fun c hc => hcan ▸ canL.calls _ c k l wr hlk (hlk ▸ (Kd.R_reads' HV.out).2.2) (hlk ▸ hc)⟩
          clear hcan
          go_wp2_with (first | (go_at_call 38; (with_reducible refine (HC.out _ (Nat.le_of_eq hlk)).mono ?_); rintro e w1 ⟨rfl, hb⟩; have HB1 := Aside0.mk (below_step HB.out hb); clear hb))
          refine bodyPost_ret (results_tmp3 rfl _ _ _) rfl ?_
          exact DecPost.bad HE.out HB1.out
        | true =>
          have HE := Aside0.mk (HGO.out l r HD.out hcan)
          have HC : Aside0 (∀ c, l.length ≤ c → Calls Tryd.prog 38 #[.slice (some ⟨w.heap.size, 0, none⟩) k c] wr fun e w' => e = .returned (.bool true) ∧ Below wr.heap.size wr w') := ⟨fun c hc => hcan ▸ canL.calls _ c k l wr hlk (hlk ▸ (Kd.R_reads' HV.out).2.2) (hlk ▸ hc)⟩
          clear hcan
          go_wp2_with (first | (go_at_call 38; (with_reducible refine (HC.out _ (Nat.le_of_eq hlk)).mono ?_); rintro e w1 ⟨rfl, hb⟩; have HB1 := Aside0.mk (below_step HB.out hb); have HV1 := Aside0.mk (Kd.R_below HV.out hb); have HE1 := Aside0.mk (R_empty (Kd.int .u8) 5 w.heap.size w1 (fun _ => True) (below_step HB.out hb).size trivial); clear hb) | ((with_reducible refine gate_dst (N := 71) rfl ?_); go_must (refine Kd.R_append_row (Value.int .u8) 0 (h1 := fun _ => rfl) (w0 := w) w.heap.size rfl (.tmp 69) (.tmp 70) 22 5 (.int .u8 0) 1 rfl Tryd.underlying22 infoU8 rfl (by decide) _ [] r A' r.length c' (fun _ => True) rfl rfl (fun _ _ => trivial) HE1.out (Kd.C_below HCR.out (below_alloc HB1.out _)) (below_alloc HB1.out _) ?hb ?hl ?_; (case hb => exact (below_alloc HB1.out _).size); (case hl => (have := HRL2.out; simp; omega)); intro v1 w2 hR1 hB1 hg_ ho_; rw [List.nil_append] at hR1; have HR2 := Aside0.mk hR1; have HB2 := Aside0.mk hB1; have HV2 := Aside0.mk (R_past HV1.out hg_); clear hR1 hB1 hg_ ho_)))
          refine bodyPost_ret (results_tmp3 rfl _ _ _) rfl ?_
          refine ⟨_, _, by rw [HE.out]; rfl, ?_, ?_, HB2.out⟩
          · rw [HE.out]
            exact HV2.out
          · rw [HE.out]
            exact HR2.out
end Go.Proofs.YtbgmnmjokdfmlaaDoor.PA
namespace Go.Proofs.YtbgmnmjokdfmlaaDoor.PA
open Go.RowKit Go.Proofs.YtbgmnmjokdfmlaaDoor.G Go.Proofs.YtbgmnmjokdfmlaaDoorW.PrintWords Go.Proofs.YtbgmnmjokdfmlaaDoorW.PrintLast Go.Proofs.YtbgmnmjokdfmlaaDoorW.PrintMore
theorem unT_six (l : List Int) (N : Int) (s : Int × Bool) : 0 ≤ (unT l N s 6).1 ∧ (unT l N s 6).1 < 64 := by
  unfold unT takeR
  split
  · exact ⟨Int.le_refl _, by show (0 : Int) < _; decide⟩
  · split
    · exact ⟨Int.le_refl _, by show (0 : Int) < _; decide⟩
    · have := num_lt (win l s.1.toNat 6)
      rw [win_length] at this
      exact ⟨Int.natCast_nonneg _, by show ((num (win l s.1.toNat 6) : Nat) : Int) < _; omega⟩
theorem take_pair (g : Nat) (A : Option Addr) (c : Nat) (l : List Int) (N k : Int) (s r : Int × Int × Bool) (w0 w : World) (hr : Kd.C (Kd.int .u8) w0 A l.length l) (hc : l.length ≤ c) (hg : w0.heap.size ≤ g)
    (hl : OkL l) (hn : l.length ≤ 1000000) (hN : -9223372036854775808 ≤ N ∧ N ≤ 9223372036854775807) (hU : UP w g A l.length c N s.2.1 s.2.2) (hB : Below w0.heap.size w0 w) (he : unT l N s.2 k = r) :
    Calls Tryd.prog 89 #[.pointer (some ⟨g, 0, none⟩), .int .i64 k] w fun e w' => e = .returned (.int .u64 r.1) ∧ UP w' g A l.length c N r.2.1 r.2.2 ∧ Below w0.heap.size w0 w' ∧ KeepBut w w' g none := by
  subst he
  exact unpack_take.calls g A c l N s.2.1 k s.2.2 w0 w hU hr hc hB hg hl hn hN
set_option maxHeartbeats 4000000 in
set_option maxRecDepth 100000 in
theorem unpack_value.calls (g : Nat) (A : Option Addr) (c : Nat) (l : List Int) (N p : Int) (bad : Bool) (w0 w : World) (hU : UP w g A l.length c N p bad) (hr : Kd.C (Kd.int .u8) w0 A l.length l) (hc : l.length ≤ c) (hB : Below w0.heap.size w0 w) (hg : w0.heap.size ≤ g)
    (hl : OkL l) (hn : l.length ≤ 1000000) (hN : -9223372036854775808 ≤ N ∧ N ≤ 9223372036854775807) :
    Calls Tryd.prog 91 #[.pointer (some ⟨g, 0, none⟩)] w fun e w' => e = .returned (.int .u64 (unV l N (p, bad)).1) ∧ UP w' g A l.length c N (unV l N (p, bad)).2.1 (unV l N (p, bad)).2.2 ∧ Below w0.heap.size w0 w' ∧ KeepBut w w' g none := by
  have CT := Aside0.mk (fun k s r W hU hB he => take_pair g A c l N k s r w0 W hr hc hg hl hn hN hU hB he)
  have HB := Aside0.mk hB
  have HU := Aside0.mk hU
  have HG := Aside0.mk hg
  have u3 : w.cell? ⟨g, 3, none⟩ = some (.bool bad) := (blk_cell hU 3).trans rfl
  clear hU hr hc hB hg hl hn hN
  cases bad with
  | true =>
    rw [unV, if_pos rfl]
    go_enter Tryd.func91, Tryd.ntmps91
    go_wp2
    go_ret
    exact ⟨rfl, HU.out, HB.out, KeepBut.refl _ _ _⟩
  | false =>
    obtain ⟨a, ha⟩ : ∃ a, unT l N (p, false) 1 = a := ⟨_, rfl⟩
    obtain ⟨b, hb⟩ : ∃ b, unT l N a.2 6 = b := ⟨_, rfl⟩
    obtain ⟨d, hd⟩ : ∃ d, unT l N b.2 6 = d := ⟨_, rfl⟩
    obtain ⟨w_, hw⟩ : ∃ w, wrap64 (wrap64 d.1 + 1) = w := ⟨_, rfl⟩
    obtain ⟨t, ht⟩ : ∃ t, unT l N d.2 w_ = t := ⟨_, rfl⟩
    have HE : Aside0 (unV l N (p, false) = if a.1 = 0 then (0, a.2) else if (d.2.2 || decide (64 < wrap64 (wrap64 b.1 + w_))) = true then (0, d.2.1, true) else (shl .u64 t.1 (wrap64 (wrap64 (64 - wrap64 b.1) - w_)), t.2)) := ⟨by
      unfold unV
      simp only [ha, hb, hd, hw, ht]
      rw [if_neg (by simp)]⟩
    have hb6 := hb ▸ unT_six l N a.2
    have hd6 := hd ▸ unT_six l N b.2
    have hwv : w_ = d.1 + 1 := by rw [← hw, w64 (x := d.1) (by omega) (by omega), w64 (by omega) (by omega)]
    have HSH : Aside0 (¬ 64 < wrap64 (wrap64 b.1 + w_) → 0 ≤ wrap64 (wrap64 (64 - wrap64 b.1) - w_)) := ⟨fun h => by
      rw [w64 (x := b.1) (by omega) (by omega), w64 (by omega) (by omega)] at h
      rw [w64 (x := b.1) (by omega) (by omega), w64 (x := 64 - b.1) (by omega) (by omega), w64 (by omega) (by omega)]
      omega⟩
    clear hb6 hd6 hwv
    have HA := Aside0.mk ha
    have HBE := Aside0.mk hb
    have HD := Aside0.mk hd
    have HT := Aside0.mk ht
    clear ha hb hd ht
    by_cases c1 : a.1 = 0
    · have c1b : (a.1 == 0) = true := beq_iff_eq.2 c1
      have HC1 := Aside0.mk c1
      clear c1
      go_enter Tryd.func91, Tryd.ntmps91
      go_wp2_with (go_at_call 89; (with_reducible refine (CT.out 1 (0, p, false) a _ HU.out HB.out HA.out).mono ?_); rintro e w1 ⟨rfl, hu, hb, hk⟩; have HU1 := Aside0.mk hu; have HB1 := Aside0.mk hb; have HK1 := Aside0.mk hk; clear hu hb hk)
      go_ret
      rw [HE.out, if_pos HC1.out]
      exact ⟨rfl, HU1.out, HB1.out, HK1.out⟩
    · have c1b : (a.1 == 0) = false := beq_eq_false_iff_ne.2 c1
      have HC1 := Aside0.mk c1
      clear c1
      cases h2 : d.2.2 with
      | true =>
        go_enter Tryd.func91, Tryd.ntmps91
        go_wp2_with (first
            | (go_at_call 89; (with_reducible refine (CT.out 1 (0, p, false) a _ HU.out HB.out HA.out).mono ?_); rintro e w1 ⟨rfl, hu, hb, hk⟩; have HU1 := Aside0.mk hu; have HB1 := Aside0.mk hb; have HK1 := Aside0.mk hk; clear hu hb hk)
            | (go_at_call 89; (with_reducible refine (CT.out 6 a b _ HU1.out HB1.out HBE.out).mono ?_); rintro e w2 ⟨rfl, hu, hb, hk⟩; have HU2 := Aside0.mk hu; have HB2 := Aside0.mk hb; have HK2 := Aside0.mk (HK1.out.trans hk (.inl rfl)); clear hu hb hk)
            | (go_at_call 89; (with_reducible refine (CT.out 6 b d _ HU2.out HB2.out HD.out).mono ?_); rintro e w3 ⟨rfl, hu, hb, hk⟩; rw [h2] at hu; have HU3 := Aside0.mk hu; have HB3 := Aside0.mk hb; have HK3 := Aside0.mk (HK2.out.trans hk (.inl rfl)); have c3 := (blk_cell hu 3).trans rfl; have f3 := blk_frozen hu 3; clear hu hb hk))
        go_ret
        rw [HE.out, if_neg HC1.out, if_pos (by rw [h2]; rfl)]
        exact ⟨rfl, blk_put HU3.out 3 _ rfl, HB3.out.setCell (p := ⟨g, 3, none⟩) HG.out _, HK3.out.set_ 3 _⟩
      | false =>
        by_cases hq : 64 < wrap64 (wrap64 b.1 + w_)
        · have hqb : decide (64 < wrap64 (wrap64 b.1 + w_)) = true := decide_eq_true hq
          go_enter Tryd.func91, Tryd.ntmps91
          go_wp2_with (first
            | (go_at_call 89; (with_reducible refine (CT.out 1 (0, p, false) a _ HU.out HB.out HA.out).mono ?_); rintro e w1 ⟨rfl, hu, hb, hk⟩; have HU1 := Aside0.mk hu; have HB1 := Aside0.mk hb; have HK1 := Aside0.mk hk; clear hu hb hk)
            | (go_at_call 89; (with_reducible refine (CT.out 6 a b _ HU1.out HB1.out HBE.out).mono ?_); rintro e w2 ⟨rfl, hu, hb, hk⟩; have HU2 := Aside0.mk hu; have HB2 := Aside0.mk hb; have HK2 := Aside0.mk (HK1.out.trans hk (.inl rfl)); clear hu hb hk)
            | (go_at_call 89; (with_reducible refine (CT.out 6 b d _ HU2.out HB2.out HD.out).mono ?_); rintro e w3 ⟨rfl, hu, hb, hk⟩; rw [h2] at hu; have HU3 := Aside0.mk hu; have HB3 := Aside0.mk hb; have HK3 := Aside0.mk (HK2.out.trans hk (.inl rfl)); have c3 := (blk_cell hu 3).trans rfl; have f3 := blk_frozen hu 3; clear hu hb hk))
          go_ret
          rw [HE.out, if_neg HC1.out, if_pos (by rw [h2, hqb]; rfl)]
          exact ⟨rfl, blk_put HU3.out 3 _ rfl, HB3.out.setCell (p := ⟨g, 3, none⟩) HG.out _, HK3.out.set_ 3 _⟩
        · have hqb : decide (64 < wrap64 (wrap64 b.1 + w_)) = false := decide_eq_false hq
          have hsh := HSH.out hq
          have CT4 := Aside0.mk (fun W (hu : UP W g A l.length c N d.2.1 false) hB => CT.out w_ d t W (by rw [h2]; exact hu) hB HT.out)
          go_enter Tryd.func91, Tryd.ntmps91
          go_wp2_with (first
            | (go_at_call 89; (with_reducible refine (CT.out 1 (0, p, false) a _ HU.out HB.out HA.out).mono ?_); rintro e w1 ⟨rfl, hu, hb, hk⟩; have HU1 := Aside0.mk hu; have HB1 := Aside0.mk hb; have HK1 := Aside0.mk hk; clear hu hb hk)
            | (go_at_call 89; (with_reducible refine (CT.out 6 a b _ HU1.out HB1.out HBE.out).mono ?_); rintro e w2 ⟨rfl, hu, hb, hk⟩; have HU2 := Aside0.mk hu; have HB2 := Aside0.mk hb; have HK2 := Aside0.mk (HK1.out.trans hk (.inl rfl)); clear hu hb hk)
            | (go_at_call 89; (with_reducible refine (CT.out 6 b d _ HU2.out HB2.out HD.out).mono ?_); rintro e w3 ⟨rfl, hu, hb, hk⟩; rw [h2] at hu; have HU3 := Aside0.mk hu; have HB3 := Aside0.mk hb; have HK3 := Aside0.mk (HK2.out.trans hk (.inl rfl)); have c3 := (blk_cell hu 3).trans rfl; have f3 := blk_frozen hu 3; clear hu hb hk)
            | (go_at_call 89; (refine (CT4.out _ ?s1 ?s2).mono ?_); (case s1 => exact blk_put HU3.out 3 _ rfl); (case s2 => exact HB3.out.setCell (p := ⟨g, 3, none⟩) HG.out _); rintro e w4 ⟨rfl, hu, hb, hk⟩; have HU4 := Aside0.mk hu; have HB4 := Aside0.mk hb; have HK4 := Aside0.mk ((HK3.out.set_ 3 _).trans hk (.inl rfl)); clear hu hb hk))
          go_ret
          rw [HE.out, if_neg HC1.out, if_neg (by rw [h2, hqb]; simp)]
          exact ⟨rfl, HU4.out, HB4.out, HK4.out⟩
end Go.Proofs.YtbgmnmjokdfmlaaDoor.PA
namespace Go.Proofs.YtbgmnmjokdfmlaaDoor.PA
open Go.RowKit Go.Proofs.YtbgmnmjokdfmlaaDoor.G Go.Proofs.YtbgmnmjokdfmlaaDoorW.PrintWords Go.Proofs.YtbgmnmjokdfmlaaDoorW.PrintLast Go.Proofs.YtbgmnmjokdfmlaaDoorW.PrintMore
theorem codec_Encode.calls (A : Option Addr) (c : Nat) (l : List S54) (w : World) (hr : Kd.C k54 w A l.length l) (hc : l.length ≤ c) (hw : ∀ x ∈ l, okS x) (hlen : l.length ≤ 20000) (hT : TabZ w) :
    Calls Tryd.prog 32 #[.slice A l.length c] w fun e w' => ∃ v : Value, e = .returned (.tuple #[v, .int .i64 (encF l).2]) ∧ Kd.R (Kd.int .u8) 5 w' w.heap.size (fun _ => True) v (encF l).1 ∧ Below w.heap.size w w' := by
  cases h : canS l with
  | true =>
    refine (codec_Encode.calls_ok A c l w hr hc hw hlen hT h).mono ?_
    rintro e w' ⟨v, b, rfl, h1, h2, h3, h4⟩
    have e1 : encF l = (beL l.length 2 ++ b, 0) := by rw [encF, if_pos h, encL, packB_of h1 h2]
    rw [e1]
    exact ⟨v, rfl, h3, h4⟩
  | false =>
    refine (codec_Encode.calls_bad A c l w hr hc hlen h).mono ?_
    rintro e w' ⟨rfl, h4⟩
    have e1 : encF l = ([], 1) := by rw [encF, if_neg (by rw [h]; simp)]
    rw [e1]
    exact ⟨_, rfl, Kd.R_nil _ _ _ _ _, h4⟩
theorem codec_Encode.calls_at {n : Nat} (A : Option Addr) (c : Nat) (l : List S54) (w : World) (eb : List Int) (ee : Int) (hn : l.length = n) (hr : Kd.C k54 w A l.length l) (hc : n ≤ c) (hw : ∀ x ∈ l, okS x) (hlen : n ≤ 20000) (hT : TabZ w) (he : encF l = (eb, ee)) :
    Calls Tryd.prog 32 #[.slice A n c] w fun e w' => ∃ v : Value, e = .returned (.tuple #[v, .int .i64 ee]) ∧ Kd.R (Kd.int .u8) 5 w' w.heap.size (fun _ => True) v eb ∧ Below w.heap.size w w' := by
  subst hn
  have := codec_Encode.calls A c l w hr hc hw hlen hT
  rw [he] at this
  exact this
theorem encF_okB (l : List S54) (hn : l.length ≤ 20000) (hw : ∀ x ∈ l, okS x) : okB (encF l).1 = true := by
  unfold encF
  split
  · have h1 := encP_len l hw l.length (Nat.le_refl _)
    have h2 := (packB_ok (encP l l.length) (by omega)).1.bytes
    refine okB_iff.2 fun x hx => ?_
    rcases List.mem_append.1 hx with hx | hx
    · exact okB_iff.1 (okB_beL _ _) x hx
    · exact h2 x hx
  · rfl
theorem Equal_at {n m : Nat} (A0 : Option Addr) (c0 : Nat) (l0 : List Int) (A1 : Option Addr) (c1 : Nat) (l1 : List Int) (r : Bool) (w : World) (hn : l0.length = n) (hm : l1.length = m) (hr0 : Kd.C (Kd.int .u8) w A0 l0.length l0) (hc0 : n ≤ c0) (hr1 : Kd.C (Kd.int .u8) w A1 l1.length l1) (hc1 : m ≤ c1) (h0 : okB l0 = true) (h1 : okB l1 = true) (h : decide (l0 = l1) = r) :
    Calls Tryd.prog 92 #[.slice A0 n c0, .slice A1 m c1] w fun e w' => e = .returned (.bool r) ∧ Below w.heap.size w w' := by
  subst hn hm
  exact (G.bytes_Equal.calls A0 c0 l0 A1 c1 l1 r w hr0 hc0 hr1 hc1 (by rw [G.bytes_Equal.f, if_pos ⟨h0, h1⟩, h])).mono fun e w' ⟨he, hd⟩ => ⟨he, hd.below⟩
theorem number_pair (g : Nat) (A : Option Addr) (c : Nat) (l : List Int) (N p : Int) (r : Int × Int × Bool) (w0 w : World) (hr : Kd.C (Kd.int .u8) w0 A l.length l) (hc : l.length ≤ c) (hg : w0.heap.size ≤ g)
    (hl : OkL l) (hn : l.length ≤ 1000000) (hN : -9223372036854775808 ≤ N ∧ N ≤ 9223372036854775807) (hU : UP w g A l.length c N p false) (hB : Below w0.heap.size w0 w) (he : decN l N p = r) :
    Calls Tryd.prog 90 #[.pointer (some ⟨g, 0, none⟩)] w fun e w' => e = .returned (.int .i64 r.1) ∧ UP w' g A l.length c N r.2.1 r.2.2 ∧ Below w0.heap.size w0 w' ∧ KeepBut w w' g none := by
  subst he
  exact unpack_number.calls g A c l N p false w0 w hU hr hc hB hg hl hn hN
theorem value_pair (g : Nat) (A : Option Addr) (c : Nat) (l : List Int) (N p : Int) (s r : Int × Int × Bool) (w0 w : World) (hr : Kd.C (Kd.int .u8) w0 A l.length l) (hc : l.length ≤ c) (hg : w0.heap.size ≤ g)
    (hl : OkL l) (hn : l.length ≤ 1000000) (hN : -9223372036854775808 ≤ N ∧ N ≤ 9223372036854775807) (hU : UP w g A l.length c N s.2.1 s.2.2) (hB : Below w0.heap.size w0 w) (hs : decN l N p = s) (he : decV l N p = r) :
    Calls Tryd.prog 91 #[.pointer (some ⟨g, 0, none⟩)] w fun e w' => e = .returned (.int .u64 r.1) ∧ UP w' g A l.length c N r.2.1 r.2.2 ∧ Below w0.heap.size w0 w' ∧ KeepBut w w' g none := by
  subst he
  subst hs
  exact unpack_value.calls g A c l N (decN l N p).2.1 (decN l N p).2.2 w0 w hU hr hc hB hg hl hn hN
theorem get2 {b : List Int} (h : okB b = true) (hl : 2 ≤ b.length) : crc_Get.f (b.take 2) = some (((beV 0 (b.take 2) : Nat) : Int), true) ∧ beV 0 (b.take 2) < 65536 := by
  refine ⟨?_, beV_take_lt h 2⟩
  have h1 : okB (b.take 2) = true := okB_iff.2 fun x hx => okB_iff.1 h x (List.mem_of_mem_take hx)
  rw [crc_Get.f, if_pos h1, if_pos (by rw [List.length_take]; omega)]
theorem Get_at {n : Nat} (A0 : Option Addr) (c0 : Nat) (l0 : List Int) (r1 : Int) (r2 : Bool) (w : World) (hn : l0.length = n) (hr0 : Kd.C (Kd.int .u8) w A0 l0.length l0) (hc0 : n ≤ c0) (h : crc_Get.f l0 = some (r1, r2)) :
    Calls Tryd.prog 59 #[.slice A0 n c0] w fun e w' => e = .returned (.tuple #[.int .u64 r1, .bool r2]) ∧ Below w.heap.size w w' := by
  subst hn
  exact (crc_Get.calls A0 c0 l0 r1 r2 w hr0 hc0 h).mono fun e w' ⟨he, hd⟩ => ⟨he, hd.below⟩
theorem decS_stay {xb : List Int} {N : Int} {k : Nat} (h : (decS xb N (k + 1)).2.1 = true) : ∀ d, decS xb N (k + 1 + d) = decS xb N (k + 1)
  | 0 => rfl
  | d + 1 => by
    have ih := decS_stay h d
    have e : decS xb N (k + d + 2) = decS xb N (k + d + 1) := by
      rw [decS, if_pos]
      rw [show k + d + 1 = k + 1 + d by omega, ih]
      exact h
    rw [show k + 1 + (d + 1) = k + d + 2 by omega, e, show k + d + 1 = k + 1 + d by omega, ih]
set_option maxHeartbeats 8000000 in
set_option maxRecDepth 100000 in
theorem codec_Decode.calls (A : Option Addr) (c : Nat) (b : List Int) (w : World) (hr : Kd.C (Kd.int .u8) w A b.length b) (hc : b.length ≤ c) (hok : okB b = true) (hlen : b.length ≤ 2500) (hT : TabZ w) :
    Calls Tryd.prog 61 #[.slice A b.length c] w fun e w' => ∃ v : Value, e = .returned (.tuple #[v, .int .i64 (decF b).2]) ∧ Kd.R k54 54 w' w.heap.size (fun _ => True) v (decF b).1 ∧ Below w.heap.size w w' := by
  by_cases h2 : b.length < 2
  · have e0 : decF b = ([], 5) := by rw [decF, if_pos h2]
    rw [e0]
    have d0 : decide ((b.length : Int) < 2) = true := decide_eq_true (by omega)
    clear e0 h2 hr hc hT
    go_enter Tryd.func61, Tryd.ntmps61
    go_wp2
    go_step3
    go_wp2
    try rw [Exit.noGoto_ret]
    refine bodyPost_ret (results_tmp2 rfl _ _ _) rfl ?_
    exact ⟨_, rfl, Kd.R_nil _ _ _ _ _, Below.refl _ _⟩
  have d0 : decide ((b.length : Int) < 2) = false := decide_eq_false (by omega)
  obtain ⟨xb, hxb⟩ : ∃ xb, b.drop 2 = xb := ⟨_, rfl⟩
  have hxl : xb.length = b.length - 2 := by rw [← hxb, List.length_drop]
  obtain ⟨hget, hn64⟩ := get2 hok (by omega)
  obtain ⟨n, hn⟩ : ∃ n, beV 0 (b.take 2) = n := ⟨_, rfl⟩
  rw [hn] at hget hn64
  obtain ⟨NN, hNN⟩ : ∃ N : Nat, 8 * (b.length - 2) = N := ⟨_, rfl⟩
  have HF : Aside0 (decF b = if (decS xb (NN : Int) n).2.1 = false ∧ encF (decS xb (NN : Int) n).2.2.1 = (b, 0) then ((decS xb (NN : Int) n).2.2.1, 0) else ([], 5)) := ⟨by rw [decF, if_neg h2, hxb, hNN, hn]⟩
  have hokx : OkL xb := fun x hx => okB_iff.1 hok x (List.mem_of_mem_drop (hxb ▸ hx))
  obtain ⟨i05, hi05, _, hsz5, _⟩ := info_parts infoU8
  have hto := cut_to (P := Tryd.prog) 22 5 .i64 Tryd.underlying22 hi05 A b.length c 2 (by omega) (by omega) hc
  have hfrom := cut_from (P := Tryd.prog) 22 5 .i64 Tryd.underlying22 hi05 1 hsz5 A b.length c 2 (by omega) (by omega)
  have hdr := Kd.C_drop (m := 2) (c := c) hr (by omega) hc
  rw [hxb] at hdr
  obtain ⟨A', hA'⟩ : ∃ A', (if c = (2 : Int).toNat then A else A.map (·.add ((2 : Int).toNat * 1))) = A' := ⟨_, rfl⟩
  rw [hA'] at hfrom
  have HX : Aside0 (Kd.C (Kd.int .u8) w A' xb.length xb) := ⟨by rw [← hA']; exact hdr⟩
  have HXC : Aside0 (xb.length ≤ c - 2) := ⟨by omega⟩
  have HTK := Aside0.mk (Kd.C_take hr (show 2 ≤ b.length by omega))
  have HTL : Aside0 ((b.take 2).length = 2) := ⟨by rw [List.length_take]; omega⟩
  have HGET := Aside0.mk hget
  have HRB := Aside0.mk hr
  have HC := Aside0.mk hc
  have HOK := Aside0.mk hok
  have HOX := Aside0.mk hokx
  have HT := Aside0.mk hT
  have HXL := Aside0.mk hxl
  have HNN := Aside0.mk hNN
  rw [show (2 : Int).toNat = 2 from rfl, ← hxl] at hfrom
  rw [show (2 : Int).toNat = 2 from rfl] at hto
  have hNe : wrap64 (8 * wrap64 ((b.length : Int) - 2)) = (NN : Int) := by rw [w64 (x := (b.length : Int) - 2) (by omega) (by omega), w64 (by omega) (by omega)]; omega
  clear hr hc hok hokx hT hA' hdr hget hxl hNN hn hxb
  go_enter Tryd.func61, Tryd.ntmps61
  go_wp2
  go_step3
  go_wp2_with (first
    | (go_at_call 59; (with_reducible refine (Get_at A c (b.take 2) (n : Int) true _ HTL.out HTK.out (by have := HC.out; omega) HGET.out).mono ?_); rintro e w1 ⟨rfl, hb⟩; have HB1 := Aside0.mk hb; clear hb)
    | ((with_reducible refine gate_dst (N := 30) rfl ?_); refine box_event ?hg (N := 30) ?hd (cs := #[.slice A' xb.length (c - 2), .int .i64 (NN : Int), .int .i64 0, .bool false]) (t := 128) ?hr ?_; (case hd => rfl); (case hg => rfl); (case hr => first | (go_simp; done) | (go_simp; rfl)); intro g hg w2 hbox hb; have HB2 := Aside0.mk (below_step HB1.out hb); have HBK := Aside0.mk hbox; have HG : Aside0 (w.heap.size ≤ g) := ⟨by have := HB1.out.size; omega⟩; clear hb hbox hg))
  go_step3
  go_wp2
  -- LOOP
  have hN2 : 8 * ((b.length : Int) - 2) = (NN : Int) := by have := HNN.out; omega
  simp only [hN2]
  have HU0 : Aside0 (UP (w1.alloc (.cells #[.slice A' xb.length (c - 2), .int .i64 (NN : Int), .int .i64 0, .bool false] 128)) w1.heap.size A' xb.length (c - 2) (NN : Int) 0 false) := ⟨blk_new _ _⟩
  have HB0 := Aside0.mk (below_alloc HB1.out (.cells #[.slice A' xb.length (c - 2), .int .i64 (NN : Int), .int .i64 0, .bool false] 128))
  have HG : Aside0 (w.heap.size ≤ w1.heap.size) := ⟨HB1.out.size⟩
  generalize w1.alloc (.cells #[.slice A' xb.length (c - 2), .int .i64 (NN : Int), .int .i64 0, .bool false] 128) = w2 at *
  generalize w1.heap.size = g at *
  clear hN2 hNe hto hfrom HB1 HTK HTL HGET
  have hNN : -9223372036854775808 ≤ (NN : Int) ∧ (NN : Int) ≤ 9223372036854775807 := by have := HNN.out; omega
  have hxbl : xb.length ≤ 1000000 := by have := HXL.out; omega
  have CT := Aside0.mk (fun k s r W hU hB he => take_pair g A' (c - 2) xb (NN : Int) k s r w W HX.out HXC.out HG.out HOX.out hxbl hNN hU hB he)
  have CN := Aside0.mk (fun p r W hU hB he => number_pair g A' (c - 2) xb (NN : Int) p r w W HX.out HXC.out HG.out HOX.out hxbl hNN hU hB he)
  have CV := Aside0.mk (fun p s r W hU hB hs he => value_pair g A' (c - 2) xb (NN : Int) p s r w W HX.out HXC.out HG.out HOX.out hxbl hNN hU hB hs he)
  have INV := Aside0.mk (decS_inv xb NN (by have := HNN.out; omega))
  clear hNN hxbl
  go_loopw [7, 8, 33] (fun v7 v8 i wr => ∃ (k : Nat) (l : List S54) (p st : Int), k ≤ n ∧ i = .int .i64 k ∧ v8 = .int .i64 st ∧ Aside0 (decS xb (NN : Int) k = (p, false, l, st)) ∧ Aside0 (Kd.R k54 54 wr w.heap.size (fun q => q ≠ g) v7 l) ∧ Aside0 (UP wr g A' xb.length (c - 2) (NN : Int) p false) ∧ Aside0 (Below w.heap.size w wr)) (fun _ _ i _ => n - (intOf i).toNat)
  case atStart => exact ⟨0, [], 0, 0, Nat.zero_le _, rfl, rfl, ⟨rfl⟩, ⟨Kd.R_nil _ _ _ _ _⟩, HU0, HB0⟩
  case round =>
    clear HU0 HB0
    obtain ⟨k, l, p, st, hk, rfl, rfl, HS, HOt, HUr, HBr⟩ := hrel
    obtain ⟨A7, c7, e7⟩ := Kd.R_slice HOt.out
    subst e7
    have hinv := INV.out k
    rw [HS.out] at hinv
    have HOKS : Aside0 (∀ x ∈ l, okS x) := ⟨hinv.1⟩
    have HLL : Aside0 (l.length = k) := ⟨(hinv.2.2 rfl).1⟩
    have HLEN : Aside0 (l.length ≤ 20000) := ⟨by have := hinv.2.1; have := HNN.out; simp only at *; omega⟩
    clear hinv
    by_cases hlt : k < n
    · have gne : Aside0 (wr.heap.size ≠ g) := ⟨by have := blk_lt HUr.out; omega⟩
      have HOA := Aside0.mk (Kd.R_alloc (Kd.R_mono (ok' := fun q => q ≠ g ∧ q ≠ wr.heap.size) (Kd.R_bound HOt.out) (fun q hq => ⟨hq.1, by have := hq.2; omega⟩)) (.cells #[.int .i64 0, .int .u64 0] 54))
      have HBA := Aside0.mk (below_alloc HBr.out (.cells #[.int .i64 0, .int .u64 0] 54))
      have HUA : Aside0 (UP (wr.alloc (.cells #[.int .i64 0, .int .u64 0] 54)) g A' xb.length (c - 2) (NN : Int) p false) := ⟨blk_alloc HUr.out _⟩
      have HXA := Aside0.mk (blk_new wr (.cells #[.int .i64 0, .int .u64 0] 54))
      have HSA : Aside0 (wr.heap.size < (wr.alloc (.cells #[.int .i64 0, .int .u64 0] 54)).heap.size) := ⟨by simp⟩
      have HBS : Aside0 (w.heap.size ≤ wr.heap.size) := ⟨HBr.out.size⟩
      clear HOt
      cases k with
      | zero =>
        have hs0 := HS.out
        simp only [decS, Prod.mk.injEq] at hs0
        obtain ⟨rfl, -, hl0, rfl⟩ := hs0
        obtain ⟨a, ha⟩ : ∃ a, unT xb (NN : Int) (0, false) 64 = a := ⟨_, rfl⟩
        obtain ⟨d, hd⟩ : ∃ d, unT xb (NN : Int) a.2 64 = d := ⟨_, rfl⟩
        have HST : Aside0 (decS xb (NN : Int) (0 + 1) = (d.2.1, d.2.2, if d.2.2 = true then l else l ++ [⟨wrap64 a.1, d.1⟩], 0)) := ⟨by
          rw [← hl0]
          have e1 : decA xb (NN : Int) 0 = a := ha
          have e2 : decB xb (NN : Int) 0 = d := by unfold decB; rw [e1]; exact hd
          simp only [decS, e1, e2, List.nil_append]⟩
        have HA := Aside0.mk ha
        have HD2 := Aside0.mk hd
        clear ha hd hl0
        cases hbad : d.2.2 with
        | true =>
          have HD : Aside0 (decS xb (NN : Int) n = (d.2.1, true, l, 0)) := ⟨by
            have h1 := HST.out
            rw [hbad, if_pos rfl] at h1
            have h2 := decS_stay (xb := xb) (N := (NN : Int)) (k := 0) (by rw [h1]) (n - (0 + 1))
            rw [show 0 + 1 + (n - (0 + 1)) = n by omega, h1] at h2
            exact h2⟩
          obtain ⟨eb, ee, henc⟩ : ∃ eb ee, encF l = (eb, ee) := ⟨_, _, rfl⟩
          have HENC := Aside0.mk henc
          have HEOK : Aside0 (okB eb = true) := ⟨by have := encF_okB l HLEN.out HOKS.out; rw [henc] at this; exact this⟩
          clear henc
          go_wp2_with (first
            | (go_at_call 89; (with_reducible refine (CT.out 64 (0, 0, false) a _ HUA.out HBA.out HA.out).mono ?_); rintro e w3 ⟨rfl, hu, hb, hk⟩; have HU3 := Aside0.mk hu; have HB3 := Aside0.mk hb; have HX3 := Aside0.mk ((hk.2 wr.heap.size HSA.out gne.out (by simp)).trans HXA.out); have HS3 : Aside0 (wr.heap.size < w3.heap.size) := ⟨Nat.lt_of_lt_of_le HSA.out hk.1⟩; have HO3 := Aside0.mk (Kd.R_keep HOA.out hk (fun _ q => q.1)); clear hu hb hk)
            | (go_at_call 89; (with_reducible refine (CT.out 64 a d _ HU3.out HB3.out HD2.out).mono ?_); rintro e w4 ⟨rfl, hu, hb, hk⟩; rw [hbad] at hu; have hx4 := (hk.2 wr.heap.size HS3.out gne.out (by simp)).trans HX3.out; have c40 := (blk_cell hx4 0).trans rfl; have c41 := (blk_cell hx4 1).trans rfl; have f40 := blk_frozen hx4 0; have f41 := blk_frozen hx4 1; have HXB : Aside0 (((w4.setCell ⟨wr.heap.size, 0, none⟩ (.int .i64 (wrap64 a.1))).setCell ⟨wr.heap.size, 1, none⟩ (.int .u64 d.1)).heap[wr.heap.size]? = some (.cells #[.int .i64 (wrap64 a.1), .int .u64 d.1] 54 (0, 0))) := ⟨blk_put (blk_put hx4 0 _ rfl) 1 _ rfl⟩; have HUt : Aside0 (UP ((w4.setCell ⟨wr.heap.size, 0, none⟩ (.int .i64 (wrap64 a.1))).setCell ⟨wr.heap.size, 1, none⟩ (.int .u64 d.1)) g A' xb.length (c - 2) (NN : Int) d.2.1 true) := ⟨blk_far (p := ⟨wr.heap.size, 1, none⟩) (blk_far (p := ⟨wr.heap.size, 0, none⟩) hu gne.out.symm _) gne.out.symm _⟩; have HOt : Aside0 (Kd.R k54 54 ((w4.setCell ⟨wr.heap.size, 0, none⟩ (.int .i64 (wrap64 a.1))).setCell ⟨wr.heap.size, 1, none⟩ (.int .u64 d.1)) w.heap.size (fun q => q ≠ g) (.slice A7 l.length c7) l) := ⟨Kd.R_mono (Kd.R_far (p := ⟨wr.heap.size, 1, none⟩) (Kd.R_far (p := ⟨wr.heap.size, 0, none⟩) (Kd.R_keep HO3.out hk (fun _ q => q.1)) (fun _ q => q.2) _) (fun _ q => q.2) _) (fun _ q => q.1)⟩; have HBt : Aside0 (Below w.heap.size w ((w4.setCell ⟨wr.heap.size, 0, none⟩ (.int .i64 (wrap64 a.1))).setCell ⟨wr.heap.size, 1, none⟩ (.int .u64 d.1))) := ⟨(hb.setCell (p := ⟨wr.heap.size, 0, none⟩) HBS.out _).setCell (p := ⟨wr.heap.size, 1, none⟩) HBS.out _⟩; have cx3 := (blk_cell HUt.out 3).trans rfl; have cs0 := (blk_cell HXB.out 0).trans rfl; have cs1 := (blk_cell HXB.out 1).trans rfl; clear hu hb hk hx4)
            | (go_at_call 32; (with_reducible refine (codec_Encode.calls_at A7 c7 l _ eb ee rfl (Kd.R_reads' HOt.out).2.2 (Kd.R_reads' HOt.out).2.1 HOKS.out HLEN.out (HT.out.below HBt.out) HENC.out).mono ?_); rintro e w6 ⟨v6, rfl, hr6, hb⟩; obtain ⟨A6, c6, rfl⟩ := Kd.R_slice hr6; have HR6 := Aside0.mk (Kd.R_reads' hr6); have HU6 := Aside0.mk (blk_below HUt.out hb); have HO6 := Aside0.mk (Kd.R_below HOt.out hb); have HB6 := Aside0.mk (below_step HBt.out hb); have c63 := (blk_cell HU6.out 3).trans rfl; clear hr6 hb))
          try rw [Exit.noGoto_ret]
          refine bodyPost_ret (results_tmp2 rfl _ _ _) rfl ?_
          rw [HF.out, HD.out, if_neg (by simp)]
          exact ⟨_, rfl, Kd.R_nil _ _ _ _ _, HB6.out⟩
        | false =>
          go_wp2_with (first
            | (go_at_call 89; (with_reducible refine (CT.out 64 (0, 0, false) a _ HUA.out HBA.out HA.out).mono ?_); rintro e w3 ⟨rfl, hu, hb, hk⟩; have HU3 := Aside0.mk hu; have HB3 := Aside0.mk hb; have HX3 := Aside0.mk ((hk.2 wr.heap.size HSA.out gne.out (by simp)).trans HXA.out); have HS3 : Aside0 (wr.heap.size < w3.heap.size) := ⟨Nat.lt_of_lt_of_le HSA.out hk.1⟩; have HO3 := Aside0.mk (Kd.R_keep HOA.out hk (fun _ q => q.1)); clear hu hb hk)
            | (go_at_call 89; (with_reducible refine (CT.out 64 a d _ HU3.out HB3.out HD2.out).mono ?_); rintro e w4 ⟨rfl, hu, hb, hk⟩; rw [hbad] at hu; have hx4 := (hk.2 wr.heap.size HS3.out gne.out (by simp)).trans HX3.out; have c40 := (blk_cell hx4 0).trans rfl; have c41 := (blk_cell hx4 1).trans rfl; have f40 := blk_frozen hx4 0; have f41 := blk_frozen hx4 1; have HXB : Aside0 (((w4.setCell ⟨wr.heap.size, 0, none⟩ (.int .i64 (wrap64 a.1))).setCell ⟨wr.heap.size, 1, none⟩ (.int .u64 d.1)).heap[wr.heap.size]? = some (.cells #[.int .i64 (wrap64 a.1), .int .u64 d.1] 54 (0, 0))) := ⟨blk_put (blk_put hx4 0 _ rfl) 1 _ rfl⟩; have HUt : Aside0 (UP ((w4.setCell ⟨wr.heap.size, 0, none⟩ (.int .i64 (wrap64 a.1))).setCell ⟨wr.heap.size, 1, none⟩ (.int .u64 d.1)) g A' xb.length (c - 2) (NN : Int) d.2.1 false) := ⟨blk_far (p := ⟨wr.heap.size, 1, none⟩) (blk_far (p := ⟨wr.heap.size, 0, none⟩) hu gne.out.symm _) gne.out.symm _⟩; have HOt : Aside0 (Kd.R k54 54 ((w4.setCell ⟨wr.heap.size, 0, none⟩ (.int .i64 (wrap64 a.1))).setCell ⟨wr.heap.size, 1, none⟩ (.int .u64 d.1)) w.heap.size (fun q => q ≠ g) (.slice A7 l.length c7) l) := ⟨Kd.R_mono (Kd.R_far (p := ⟨wr.heap.size, 1, none⟩) (Kd.R_far (p := ⟨wr.heap.size, 0, none⟩) (Kd.R_keep HO3.out hk (fun _ q => q.1)) (fun _ q => q.2) _) (fun _ q => q.2) _) (fun _ q => q.1)⟩; have HBt : Aside0 (Below w.heap.size w ((w4.setCell ⟨wr.heap.size, 0, none⟩ (.int .i64 (wrap64 a.1))).setCell ⟨wr.heap.size, 1, none⟩ (.int .u64 d.1))) := ⟨(hb.setCell (p := ⟨wr.heap.size, 0, none⟩) HBS.out _).setCell (p := ⟨wr.heap.size, 1, none⟩) HBS.out _⟩; have cx3 := (blk_cell HUt.out 3).trans rfl; have cs0 := (blk_cell HXB.out 0).trans rfl; have cs1 := (blk_cell HXB.out 1).trans rfl; clear hu hb hk hx4)
            | ((with_reducible refine gate_builtin (b := .append) (xs := #[.tmp 70, .tmp 72]) rfl ?_); at_builtin; refine Kd.R_append k54 (w0 := w) w.heap.size rfl (.tmp 70) (.tmp 72) 30 54 (.agg #[.int .i64 0, .int .u64 0]) 16 rfl Tryd.underlying30 info54 rfl (by decide) (by omega) (.slice A7 l.length c7) l (⟨wrap64 a.1, d.1⟩ : S54) [.int .i64 (wrap64 a.1), .int .u64 d.1] (fun q => q ≠ g) (fun _ => False) rfl ?hx ?aP (fun _ hk => hk.elim) ?aF HOt.out HBt.out HBt.out.size ?aL ?_; (case hx => first | rfl | (go_simp; done) | (show Value.slice _ 1 1 = Value.slice _ 1 1; simp; done)); (case aP => exact k54_mkM _ _ _ (⟨wrap64 a.1, d.1⟩ : S54)); (case aF => exact fun q hq e => by have := blk_lt HUt.out; omega); (case aL => have := HLEN.out; omega); intro v9 w9 ho hb hg9 hat; have HO9 := Aside0.mk ho; have HB9 := Aside0.mk hb; have HU9 := Aside0.mk (blk_grown HUt.out hg9 (Kd.R_ne HOt.out HUt.out (by decide))); clear ho hb hg9 hat))
          go_roundw
          case rel => exact ⟨0 + 1, l ++ [(⟨wrap64 a.1, d.1⟩ : S54)], d.2.1, 0, by omega, by go_num, rfl, ⟨by have h1 := HST.out; rw [hbad, if_neg (by simp)] at h1; exact h1⟩, HO9, HU9, HB9⟩
          case measure => simp [intOf]; omega
      | succ k =>
        rw [show ((k + 1 : Nat) : Int) = (k : Int) + 1 from by omega] at *
        obtain ⟨a, ha⟩ : ∃ a, decN xb (NN : Int) p = a := ⟨_, rfl⟩
        obtain ⟨d, hd⟩ : ∃ d, decV xb (NN : Int) p = d := ⟨_, rfl⟩
        obtain ⟨y, hy⟩ : ∃ y, rd_T54 l (k : Int) = y := ⟨_, rfl⟩
        have HST : Aside0 (decS xb (NN : Int) (k + 1 + 1) = (d.2.1, d.2.2, if d.2.2 = true then l else l ++ [⟨wrap64 (y.f0 + wrap64 (st + a.1)), Go.bits .xor .u64 y.f1 d.1⟩], wrap64 (st + a.1))) := ⟨by
          rw [decS, HS.out]
          simp only
          rw [if_neg (by simp), ha, hd, hy]⟩
        have hwk : wrap64 (k : Int) = (k : Int) := w64 (by omega) (by omega)
        have hwk' : IntKind.i64.wrap (k : Int) = (k : Int) := (i64_w _).trans hwk
        have HA := Aside0.mk ha
        have HD2 := Aside0.mk hd
        have HY := Aside0.mk hy
        clear ha hd hy
        go_wp2_with (go_at_call 90; (with_reducible refine (CN.out p a _ HUA.out HBA.out HA.out).mono ?_); rintro e w3 ⟨rfl, hu, hb, hk⟩; have HU3 := Aside0.mk hu; have HB3 := Aside0.mk hb; have HX3 := Aside0.mk ((hk.2 wr.heap.size HSA.out gne.out (by simp)).trans HXA.out); have HS3 : Aside0 (wr.heap.size < w3.heap.size) := ⟨Nat.lt_of_lt_of_le HSA.out hk.1⟩; have HO3 := Aside0.mk (Kd.R_keep HOA.out hk (fun _ q => q.1)); clear hu hb hk)
        go_cut [] (fun wx => Aside0 (wx.heap[wr.heap.size]? = some (.cells #[.int .i64 (wrap64 (y.f0 + wrap64 (st + a.1))), .int .u64 (Go.bits .xor .u64 y.f1 d.1)] 54 (0, 0))) ∧ Aside0 (UP wx g A' xb.length (c - 2) (NN : Int) d.2.1 d.2.2) ∧ Aside0 (Kd.R k54 54 wx w.heap.size (fun q => q ≠ g) (.slice A7 l.length c7) l) ∧ Aside0 (Below w.heap.size w wx))
        case first =>
          obtain ⟨ad, hh, y0, y1⟩ := at_T54 (Kd.R_reads' HO3.out).2.2 (k : Int) (by omega) (by have := HLL.out; omega)
          rw [Int.toNat_natCast, HY.out] at y0 y1
          have hk1 : (k : Int) + 1 = (l.length : Int) := by have := HLL.out; omega
          subst hh
          obtain ⟨inn, hown⟩ := Kd.R_own HO3.out
          have hn1 : ad.block ≠ g := own_blk hown (Kd.R_away HO3.out (fun q hq => hq.1))
          have hn2 : ad.block ≠ wr.heap.size := own_blk hown (Kd.R_away HO3.out (fun q hq => hq.2))
          have HN1 : Aside0 ((ad.add (k * 2)).block ≠ g ∧ (ad.add (k * 2)).block ≠ wr.heap.size) := ⟨by rw [add_block]; exact ⟨hn1, hn2⟩⟩
          clear hown hn1 hn2
          have hb0 : (0 : Int) ≤ (k : Int) := by omega
          have hb1 : (k : Int) < (l.length : Int) := by omega
          clear hk1
          go_region_held3 (fun W => W.cell? (ad.add (k * 2)) = some (.int .i64 y.f0) ∧ W.cell? ⟨(ad.add (k * 2)).block, (ad.add (k * 2)).off + 1, none⟩ = some (.int .u64 y.f1)) (first | exact ⟨y0, y1⟩ | exact ⟨z0, z1⟩ | exact ⟨(cell_far (p := ⟨wr.heap.size, 1, none⟩) HN1.out.2 _).trans ((cell_far (p := ⟨wr.heap.size, 0, none⟩) HN1.out.2 _).trans z0), (cell_far (p := ⟨wr.heap.size, 1, none⟩) (a := ⟨(ad.add (k * 2)).block, (ad.add (k * 2)).off + 1, none⟩) HN1.out.2 _).trans ((cell_far (p := ⟨wr.heap.size, 0, none⟩) (a := ⟨(ad.add (k * 2)).block, (ad.add (k * 2)).off + 1, none⟩) HN1.out.2 _).trans z1)⟩)
            (first | (go_at_call 91; (refine (CV.out p a d _ ?s1 ?s2 HA.out HD2.out).mono ?_); (case s1 => exact HU3.out); (case s2 => exact below_drew1 HB3.out); rintro e w4 ⟨rfl, hu, hb, hk⟩; have z0 := keep_cell hk y0 HN1.out.1; have z1 := keep_cell hk y1 HN1.out.1; have hx4 := (hk.2 wr.heap.size HS3.out gne.out (by simp)).trans HX3.out; have c40 := (blk_cell hx4 0).trans rfl; have c41 := (blk_cell hx4 1).trans rfl; have f40 := blk_frozen hx4 0; have f41 := blk_frozen hx4 1; have HX4 := Aside0.mk hx4; have HU4 := Aside0.mk hu; have HB4 := Aside0.mk hb; have HK4 := Aside0.mk hk; clear hx4 hu hb hk))
          all_goals
            go_wp2_with fail
            go_meet
            refine ⟨⟨?_⟩, ⟨?_⟩, ⟨?_⟩, ⟨?_⟩⟩
            · simp only [i64_w]
              exact blk_put (blk_put HX4.out 0 _ rfl) 1 _ rfl
            · exact blk_far (p := ⟨wr.heap.size, 1, none⟩) (blk_far (p := ⟨wr.heap.size, 0, none⟩) HU4.out gne.out.symm _) gne.out.symm _
            · exact Kd.R_mono (Kd.R_far (p := ⟨wr.heap.size, 1, none⟩) (Kd.R_far (p := ⟨wr.heap.size, 0, none⟩) (Kd.R_keep (Kd.R_drew HO3.out) HK4.out (fun _ q => q.1)) (fun _ q => q.2) _) (fun _ q => q.2) _) (fun _ q => q.1)
            · exact (HB4.out.setCell (p := ⟨wr.heap.size, 0, none⟩) HBS.out _).setCell (p := ⟨wr.heap.size, 1, none⟩) HBS.out _
        case rest =>
          obtain ⟨HXB, HUt, HOt, HBt⟩ := hcut
          have cx3 := (blk_cell HUt.out 3).trans rfl
          have cs0 : wc.cell? ⟨wr.heap.size, 0, none⟩ = some (.int .i64 (wrap64 (y.f0 + wrap64 (st + a.1)))) := (blk_cell HXB.out 0).trans rfl
          have cs1 : wc.cell? ⟨wr.heap.size, 1, none⟩ = some (.int .u64 (Go.bits .xor .u64 y.f1 d.1)) := (blk_cell HXB.out 1).trans rfl
          cases hbad : d.2.2 with
          | true =>
            rw [hbad] at cx3
            have HD : Aside0 (decS xb (NN : Int) n = (d.2.1, true, l, wrap64 (st + a.1))) := ⟨by
              have h1 := HST.out
              rw [hbad, if_pos rfl] at h1
              have h2 := decS_stay (xb := xb) (N := (NN : Int)) (k := k + 1) (by rw [h1]) (n - (k + 1 + 1))
              rw [show k + 1 + 1 + (n - (k + 1 + 1)) = n by omega, h1] at h2
              exact h2⟩
            obtain ⟨eb, ee, henc⟩ : ∃ eb ee, encF l = (eb, ee) := ⟨_, _, rfl⟩
            have HENC := Aside0.mk henc
            have HEOK : Aside0 (okB eb = true) := ⟨by have := encF_okB l HLEN.out HOKS.out; rw [henc] at this; exact this⟩
            clear henc
            go_wp2_with (first
              | (go_at_call 32; (with_reducible refine (codec_Encode.calls_at A7 c7 l _ eb ee rfl (Kd.R_reads' HOt.out).2.2 (Kd.R_reads' HOt.out).2.1 HOKS.out HLEN.out (HT.out.below HBt.out) HENC.out).mono ?_); rintro e w6 ⟨v6, rfl, hr6, hb⟩; obtain ⟨A6, c6, rfl⟩ := Kd.R_slice hr6; have HR6 := Aside0.mk (Kd.R_reads' hr6); have HU6 := Aside0.mk (blk_below HUt.out hb); have HO6 := Aside0.mk (Kd.R_below HOt.out hb); have HB6 := Aside0.mk (below_step HBt.out hb); have c63 := (blk_cell HU6.out 3).trans rfl; clear hr6 hb))
            try rw [Exit.noGoto_ret]
            refine bodyPost_ret (results_tmp2 rfl _ _ _) rfl ?_
            rw [HF.out, HD.out, if_neg (by simp)]
            exact ⟨_, rfl, Kd.R_nil _ _ _ _ _, HB6.out⟩
          | false =>
            rw [hbad] at cx3
            go_wp2_with (first
              | ((with_reducible refine gate_builtin (b := .append) (xs := #[.tmp 70, .tmp 72]) rfl ?_); at_builtin; refine Kd.R_append k54 (w0 := w) w.heap.size rfl (.tmp 70) (.tmp 72) 30 54 (.agg #[.int .i64 0, .int .u64 0]) 16 rfl Tryd.underlying30 info54 rfl (by decide) (by omega) (.slice A7 l.length c7) l (⟨wrap64 (y.f0 + wrap64 (st + a.1)), Go.bits .xor .u64 y.f1 d.1⟩ : S54) [.int .i64 (wrap64 (y.f0 + wrap64 (st + a.1))), .int .u64 (Go.bits .xor .u64 y.f1 d.1)] (fun q => q ≠ g) (fun _ => False) rfl ?hx ?aP (fun _ hk => hk.elim) ?aF HOt.out HBt.out HBt.out.size ?aL ?_; (case hx => first | rfl | (go_simp; done) | (show Value.slice _ 1 1 = Value.slice _ 1 1; simp; done)); (case aP => exact k54_mkM _ _ _ (⟨wrap64 (y.f0 + wrap64 (st + a.1)), Go.bits .xor .u64 y.f1 d.1⟩ : S54)); (case aF => exact fun q hq e => by have := blk_lt HUt.out; omega); (case aL => have := HLEN.out; omega); intro v9 w9 ho hb hg9 hat; have HO9 := Aside0.mk ho; have HB9 := Aside0.mk hb; have HU9 := Aside0.mk (blk_grown HUt.out hg9 (Kd.R_ne HOt.out HUt.out (by decide))); clear ho hb hg9 hat))
            go_roundw
            case rel => exact ⟨k + 1 + 1, l ++ [(⟨wrap64 (y.f0 + wrap64 (st + a.1)), Go.bits .xor .u64 y.f1 d.1⟩ : S54)], d.2.1, wrap64 (st + a.1), by omega, by go_num, rfl, ⟨by have h1 := HST.out; rw [hbad, if_neg (by simp)] at h1; exact h1⟩, HO9, ⟨by rw [← hbad]; exact HU9.out⟩, HB9⟩
            case measure => simp [intOf]; omega
    · obtain rfl : k = n := by omega
      have HD := Aside0.mk HS.out
      have HUt := HUr
      have HBt := HBr
      have cx3 := (blk_cell HUt.out 3).trans rfl
      obtain ⟨eb, ee, henc⟩ : ∃ eb ee, encF l = (eb, ee) := ⟨_, _, rfl⟩
      have HENC := Aside0.mk henc
      have HEOK : Aside0 (okB eb = true) := ⟨by have := encF_okB l HLEN.out HOKS.out; rw [henc] at this; exact this⟩
      clear henc
      by_cases hee : ee = 0
      · subst hee
        have hee0 : ((0 : Int) != 0) = false := rfl
        cases heq : decide (eb = b) with
        | false =>
          have HEQ := Aside0.mk heq
          go_wp2_with (first
            | (go_at_call 32; (with_reducible refine (codec_Encode.calls_at A7 c7 l _ eb 0 rfl (Kd.R_reads' HOt.out).2.2 (Kd.R_reads' HOt.out).2.1 HOKS.out HLEN.out (HT.out.below HBt.out) HENC.out).mono ?_); rintro e w6 ⟨v6, rfl, hr6, hb⟩; obtain ⟨A6, c6, rfl⟩ := Kd.R_slice hr6; have HR6 := Aside0.mk (Kd.R_reads' hr6); have HU6 := Aside0.mk (blk_below HUt.out hb); have HO6 := Aside0.mk (Kd.R_below HOt.out hb); have HB6 := Aside0.mk (below_step HBt.out hb); have c63 := (blk_cell HU6.out 3).trans rfl; clear hr6 hb)
            | (go_at_call 92; (with_reducible refine (Equal_at A6 c6 eb A c b false _ rfl rfl HR6.out.2.2 HR6.out.2.1 (Kd.C_below HRB.out HB6.out) HC.out HEOK.out HOK.out HEQ.out).mono ?_); rintro e w7 ⟨rfl, hb⟩; have HB7 := Aside0.mk (below_step HB6.out hb); clear hb))
          try rw [Exit.noGoto_ret]
          refine bodyPost_ret (results_tmp2 rfl _ _ _) rfl ?_
          rw [HF.out, HD.out, if_neg (by rw [HENC.out]; intro q; have := of_decide_eq_false HEQ.out; exact this (congrArg Prod.fst q.2))]
          exact ⟨_, rfl, Kd.R_nil _ _ _ _ _, HB7.out⟩
        | true =>
          have HEQ := Aside0.mk heq
          go_wp2_with (first
            | (go_at_call 32; (with_reducible refine (codec_Encode.calls_at A7 c7 l _ eb 0 rfl (Kd.R_reads' HOt.out).2.2 (Kd.R_reads' HOt.out).2.1 HOKS.out HLEN.out (HT.out.below HBt.out) HENC.out).mono ?_); rintro e w6 ⟨v6, rfl, hr6, hb⟩; obtain ⟨A6, c6, rfl⟩ := Kd.R_slice hr6; have HR6 := Aside0.mk (Kd.R_reads' hr6); have HU6 := Aside0.mk (blk_below HUt.out hb); have HO6 := Aside0.mk (Kd.R_below HOt.out hb); have HB6 := Aside0.mk (below_step HBt.out hb); have c63 := (blk_cell HU6.out 3).trans rfl; clear hr6 hb)
            | (go_at_call 92; (with_reducible refine (Equal_at A6 c6 eb A c b true _ rfl rfl HR6.out.2.2 HR6.out.2.1 (Kd.C_below HRB.out HB6.out) HC.out HEOK.out HOK.out HEQ.out).mono ?_); rintro e w7 ⟨rfl, hb⟩; have HB7 := Aside0.mk (below_step HB6.out hb); have HO7 := Aside0.mk (Kd.R_below HO6.out hb); clear hb))
          try rw [Exit.noGoto_ret]
          refine bodyPost_ret (results_tmp2 rfl _ _ _) rfl ?_
          rw [HF.out, HD.out, if_pos ⟨rfl, by rw [HENC.out]; exact congrArg (fun z => (z, (0 : Int))) (of_decide_eq_true HEQ.out)⟩]
          exact ⟨_, rfl, Kd.R_mono HO7.out (fun _ _ => trivial), HB7.out⟩
      · have hee0 : (ee != 0) = true := bne_iff_ne.2 hee
        have HEE := Aside0.mk hee
        clear hee
        go_wp2_with (first
          | (go_at_call 32; (with_reducible refine (codec_Encode.calls_at A7 c7 l _ eb ee rfl (Kd.R_reads' HOt.out).2.2 (Kd.R_reads' HOt.out).2.1 HOKS.out HLEN.out (HT.out.below HBt.out) HENC.out).mono ?_); rintro e w6 ⟨v6, rfl, hr6, hb⟩; obtain ⟨A6, c6, rfl⟩ := Kd.R_slice hr6; have HR6 := Aside0.mk (Kd.R_reads' hr6); have HU6 := Aside0.mk (blk_below HUt.out hb); have HO6 := Aside0.mk (Kd.R_below HOt.out hb); have HB6 := Aside0.mk (below_step HBt.out hb); have c63 := (blk_cell HU6.out 3).trans rfl; clear hr6 hb))
        try rw [Exit.noGoto_ret]
        refine bodyPost_ret (results_tmp2 rfl _ _ _) rfl ?_
        rw [HF.out, HD.out, if_neg (by rw [HENC.out]; intro q; exact HEE.out (congrArg Prod.snd q.2))]
        exact ⟨_, rfl, Kd.R_nil _ _ _ _ _, HB6.out⟩
end Go.Proofs.YtbgmnmjokdfmlaaDoor.PA
namespace Go.Proofs.YtbgmnmjokdfmlaaDoor.PA
open Go.RowKit Go.Proofs.YtbgmnmjokdfmlaaDoor.G Go.Proofs.YtbgmnmjokdfmlaaDoorW.PrintWords Go.Proofs.YtbgmnmjokdfmlaaDoorW.PrintLast Go.Proofs.YtbgmnmjokdfmlaaDoorW.PrintMore
theorem codec_Decode.calls_at {n : Nat} (A : Option Addr) (c : Nat) (b : List Int) (w : World) (rl : List S54) (re : Int) (hn : b.length = n) (hr : Kd.C (Kd.int .u8) w A b.length b) (hc : n ≤ c) (hok : okB b = true) (hlen : n ≤ 2500) (hT : TabZ w) (he : decF b = (rl, re)) :
    Calls Tryd.prog 61 #[.slice A n c] w fun e w' => ∃ v : Value, e = .returned (.tuple #[v, .int .i64 re]) ∧ Kd.R k54 54 w' w.heap.size (fun _ => True) v rl ∧ Below w.heap.size w w' := by
  subst hn
  have := codec_Decode.calls A c b w hr hc hok hlen hT
  rw [he] at this
  exact this
theorem encL_ok (l : List S54) (hl : l.length ≤ 20000) (hok : ∀ x ∈ l, okS x) (hc : canS l = true) : okB (encL l) = true := by
  have h := encF_okB l hl hok
  rw [(dec_enc l hok hl hc).1] at h
  exact h
end Go.Proofs.YtbgmnmjokdfmlaaDoor.PA
namespace Go.Proofs.YtbgmnmjokdfmlaaDoor.PA
open Go.RowKit Go.Proofs.YtbgmnmjokdfmlaaDoor.G Go.Proofs.YtbgmnmjokdfmlaaDoorW.PrintWords Go.Proofs.YtbgmnmjokdfmlaaDoorW.PrintLast Go.Proofs.YtbgmnmjokdfmlaaDoorW.PrintMore
attribute [local go_sem] Oper.semAt_some
abbrev Part (len : Nat) := { j : Nat // j * 20 < len }
def plen (len j : Nat) : Nat := min 20 (len - j * 20)
def partsN {len : Nat} (ys : List (Part len)) : List Nat := ys.map fun y => y.1
theorem partsN_snoc {len : Nat} (ys : List (Part len)) (x : Part len) : partsN (ys ++ [x]) = partsN ys ++ [x.1] := by simp [partsN]
theorem partsN_length {len : Nat} (ys : List (Part len)) : (partsN ys).length = ys.length := by simp [partsN]
def KeepB (B1 B2 : Nat) (W W' : World) : Prop := W'.heap[B1]? = W.heap[B1]? ∧ W'.heap[B2]? = W.heap[B2]?
theorem KeepB.refl (B1 B2 : Nat) (W : World) : KeepB B1 B2 W W := ⟨rfl, rfl⟩
theorem KeepB.trans {B1 B2 : Nat} {a b c : World} (h : KeepB B1 B2 a b) (k : KeepB B1 B2 b c) : KeepB B1 B2 a c := ⟨k.1.trans h.1, k.2.trans h.2⟩
theorem KeepB.cell1 {B1 B2 : Nat} {a b : World} (h : KeepB B1 B2 a b) : b.cell? ⟨B1, 0, none⟩ = a.cell? ⟨B1, 0, none⟩ := World.cell?_of_block h.1
theorem KeepB.cell2 {B1 B2 : Nat} {a b : World} (h : KeepB B1 B2 a b) : b.cell? ⟨B2, 0, none⟩ = a.cell? ⟨B2, 0, none⟩ := World.cell?_of_block h.2
theorem keepB_b {B1 B2 : Nat} {w : World} (h1 : B1 < w.heap.size) (h2 : B2 < w.heap.size) (W : World) (l : Nat) (o o' : Obj) (hl : w.heap.size ≤ l) (h : W.heap[l]? = some o) (_ : o.isCells = false) (_ : o.isWalk = false) : KeepB B1 B2 W (W.putObj l o') :=
  ⟨World.putObj_heap_other (by omega), World.putObj_heap_other (by omega)⟩
def ItPost (len : Nat) (J Jx : List (Part len) → World → Prop) (e : Ending) (W' : World) : Prop := (∃ v, e = .returned v) ∧ ((∃ ys : List (Part len), partsN ys = List.range ((len + 19) / 20) ∧ J ys W') ∨ (∃ pre, True ∧ Jx pre W'))
def encPt (ad : Addr) (len : Nat) (x : Part len) : Array Value := #[.slice (some (ad.add (x.1 * 20 * 2))) (plen len x.1) (plen len x.1)]
theorem infoN54 : ∃ i, Tryd.prog.info? 54 = some i ∧ i.size = 2 := by
  obtain ⟨i, hi, hz⟩ := Option.map_eq_some_iff.1 info54
  simp only [Prod.mk.injEq] at hz
  exact ⟨i, hi, hz.2.1⟩
theorem cut3S (ad : Addr) (len c lo hi : Nat) (h1 : lo < hi) (h2 : hi ≤ len) (hc : len ≤ c) (i j : Int) (hi' : i = (lo : Int)) (hj' : j = (hi : Int)) (W : World) :
    (Instr.slice 30 (.slice (some ad) len c) (some (.int .i64 i)) (some (.int .i64 j)) (some (.int .i64 j))).run Tryd.prog W = .ok (.slice (some (ad.add (lo * 2))) (hi - lo) (hi - lo)) W := by
  subst hi' hj'
  obtain ⟨i0, hi0, hsz⟩ := infoN54
  have hu := Tryd.underlying30
  have hel : Tryd.prog.elem 30 = 54 := by simp [Program.elem, hu]
  have hu' : Tryd.prog.underlying 30 = some (.slice (Tryd.prog.elem 30)) := by rw [hel]; exact hu
  rw [run_slice_lhm W 30 (some ad) len c hu' .i64 .i64 .i64 (lo : Int) (hi : Int) (hi : Int) (by omega) (by omega) (by omega) (by omega), hel]
  simp [sizeOf, typeInfo, hi0, hsz, sliced, Result.andThen]
  omega
theorem tailS (ad : Addr) (len c lo : Nat) (h1 : lo ≤ len) (i : Int) (hi' : i = (lo : Int)) :
    ∃ (A : Option Addr) (c' : Nat), ∀ W : World, (Instr.slice 30 (.slice (some ad) len c) (some (.int .i64 i)) none none).run Tryd.prog W = .ok (.slice A (len - lo) c') W := by
  subst hi'
  refine ⟨if c = lo then some ad else some (ad.add (lo * 2)), c - lo, fun W => ?_⟩
  obtain ⟨i0, hi0, hsz⟩ := infoN54
  have hu := Tryd.underlying30
  have hel : Tryd.prog.elem 30 = 54 := by simp [Program.elem, hu]
  have hu' : Tryd.prog.underlying 30 = some (.slice (Tryd.prog.elem 30)) := by rw [hel]; exact hu
  rw [run_slice_l W 30 (some ad) len c hu' .i64 (lo : Int) (by omega) (by omega), hel]
  simp [sizeOf, typeInfo, hi0, hsz, sliced, Result.andThen]
set_option maxRecDepth 100000 in
set_option maxHeartbeats 4000000 in
theorem chunkIt_in (n : Nat) (hn : 1 ≤ n) (l B1 B2 : Nat) (ad : Addr) (len c : Nat) (hlen : len ≤ 1000000) (hc : len ≤ c) (J Jx : List (Part len) → World → Prop) (hJ : ∀ pre W (q : Nat), J pre W → J pre (W.drewN q))
    (hY : ∀ pre x W, J pre W → pre.length < (len + 19) / 20 → YieldAt Fence.wide (n - 1) Tryd.prog l (encPt ad len x) W fun e W' =>
      (e = .returned (.bool true) ∧ J (pre ++ [x]) W' ∧ KeepB B1 B2 W W') ∨ (e = .returned (.bool false) ∧ Jx (pre ++ [x]) W'))
    (W : World) (hB1 : W.cell? ⟨B1, 0, none⟩ = some (.slice (some ad) len c)) (hB2 : W.cell? ⟨B2, 0, none⟩ = some (.int .i64 20)) (h0 : J [] W) :
    CallsIn Fence.wide n Tryd.prog 62 #[.func (.yield l) #[] #[], .pointer (some ⟨B1, 0, none⟩), .pointer (some ⟨B2, 0, none⟩)] W (ItPost len J Jx) := by
  refine callsIn_of_wp Tryd.func62 rfl trivial ?_ rfl
  simp only [Tryd.ntmps62, List.size_toArray, List.length_cons, List.length_nil, Nat.reduceAdd, Nat.reduceSub, Array.replicate_succ, Array.replicate_zero, List.push_toArray, List.append_toArray, List.nil_append, List.cons_append]
  gi_wp2
  gi_loopw [4] (fun i wr => ∃ (k : Nat) (pre : List (Part len)), k ≤ (len + 19) / 20 ∧ i = .int .i64 ((20 * k : Nat) : Int) ∧ partsN pre = List.range k ∧ J pre wr ∧ KeepB B1 B2 W wr)
    (fun i _ => len + 20 - (intOf i).toNat)
  case atStart => exact ⟨0, [], Nat.zero_le _, rfl, rfl, h0, KeepB.refl _ _ _⟩
  case round =>
    obtain ⟨k, pre, hk, rfl, hpre, hJs, hnx⟩ := hrel
    have b1 := hnx.cell1.trans hB1
    have b2 := hnx.cell2.trans hB2
    by_cases hlt : 20 * k < len
    · have hlen1 : pre.length < (len + 19) / 20 := by
        have := partsN_length pre
        rw [hpre, List.length_range] at this
        omega
      obtain ⟨q, hq⟩ : ∃ q, plen len k = q := ⟨_, rfl⟩
      have hq1 : 1 ≤ q ∧ q ≤ 20 ∧ 20 * k + q ≤ len := by unfold plen at hq; omega
      have hqm : min (20 : Int) ((len - k * 20 : Nat) : Int) = (q : Int) := by unfold plen at hq; omega
      obtain ⟨AT, cT, hT⟩ := tailS ad len c (20 * k) (by omega) ((20 * k : Nat) : Int) rfl
      have hmid := fun W => cut3S ad len c (20 * k) (20 * k + q) (by omega) (by omega) hc ((20 * k : Nat) : Int) (((20 * k : Nat) : Int) + (q : Int)) rfl (by omega) W
      rw [Nat.add_sub_cancel_left, Nat.mul_comm 20 k] at hmid
      rw [Nat.mul_comm 20 k] at hT
      have hq0 := hq1.1
      have hq2 := hq1.2.1
      have hq3 := hq1.2.2
      have hw1 : IntKind.i64.wrap (((k * 20 : Nat) : Int) + (q : Int)) = ((k * 20 : Nat) : Int) + (q : Int) := by rw [IntKind.wrap_i64]; omega
      have hw2 : IntKind.i64.wrap (((k * 20 : Nat) : Int) + 20) = ((k * 20 : Nat) : Int) + 20 := by rw [IntKind.wrap_i64]; omega
      rw [Nat.mul_comm 20 k] at *
      have hkl : ((k * 20 : Nat) : Int) < (len : Int) := by omega
      have HN := Aside0.mk hnx
      have HQ := Aside0.mk hq
      have HP := Aside0.mk hpre
      have HJ := Aside0.mk hJs
      have HQI := Aside0.mk hq1
      have HL1 := Aside0.mk hlen1
      clear hnx hq1 hJs hpre hq hlen1
      gi_wp2
      refine wpIn_wide.2 ?_
      by_cases hm : len - k * 20 < 20
      · obtain rfl : q = len - k * 20 := by have := HQ.out; unfold plen at this; omega
        go_quiet (fail)
        generalize hwq : wr.drewN nq = wq
        have HJq : Aside0 (J pre wq) := ⟨hwq ▸ hJ _ _ _ HJ.out⟩
        have HNq : Aside0 (KeepB B1 B2 W wq) := ⟨hwq ▸ HN.out⟩
        have b1q : wq.cell? ⟨B1, 0, none⟩ = some (.slice (some ad) len c) := hwq ▸ b1
        have b2q : wq.cell? ⟨B2, 0, none⟩ = some (.int .i64 20) := hwq ▸ b2
        clear hwq b1 b2 hm
        obtain ⟨fn, tmps, assign, body, hy, hR⟩ := hY pre ⟨k, by omega⟩ wq HJq.out HL1.out
        dsimp only [encPt] at hy
        rw [HQ.out] at hy
        gi_wp2
        refine hR.mono ?_
        rintro e W3 (⟨rfl, hJ3, hk3⟩ | ⟨rfl, hJx3⟩)
        · have b2r := hk3.cell2.trans b2q
          have HJ3 := Aside0.mk hJ3
          have HN3 := Aside0.mk (HNq.out.trans hk3)
          clear hJ3 hk3
          gi_wp2
          go_roundw
          case rel => exact ⟨k + 1, pre ++ [⟨k, by omega⟩], by omega, by first | (congr 1; omega) | (simp; omega), by rw [partsN_snoc, HP.out, List.range_succ], HJ3.out, HN3.out⟩
          case measure => simp [intOf]; omega
        · gi_wp2
          refine bodyPost_ret (results_none rfl _ _ _) rfl ?_
          exact ⟨⟨_, rfl⟩, .inr ⟨_, trivial, hJx3⟩⟩
      · obtain rfl : q = 20 := by have := HQ.out; unfold plen at this; omega
        go_quiet (fail)
        generalize hwq : wr.drewN nq = wq
        have HJq : Aside0 (J pre wq) := ⟨hwq ▸ hJ _ _ _ HJ.out⟩
        have HNq : Aside0 (KeepB B1 B2 W wq) := ⟨hwq ▸ HN.out⟩
        have b1q : wq.cell? ⟨B1, 0, none⟩ = some (.slice (some ad) len c) := hwq ▸ b1
        have b2q : wq.cell? ⟨B2, 0, none⟩ = some (.int .i64 20) := hwq ▸ b2
        clear hwq b1 b2 hm
        obtain ⟨fn, tmps, assign, body, hy, hR⟩ := hY pre ⟨k, by omega⟩ wq HJq.out HL1.out
        dsimp only [encPt] at hy
        rw [HQ.out] at hy
        gi_wp2
        refine hR.mono ?_
        rintro e W3 (⟨rfl, hJ3, hk3⟩ | ⟨rfl, hJx3⟩)
        · have b2r := hk3.cell2.trans b2q
          have HJ3 := Aside0.mk hJ3
          have HN3 := Aside0.mk (HNq.out.trans hk3)
          clear hJ3 hk3
          gi_wp2
          go_roundw
          case rel => exact ⟨k + 1, pre ++ [⟨k, by omega⟩], by omega, by first | (congr 1; omega) | (simp; omega), by rw [partsN_snoc, HP.out, List.range_succ], HJ3.out, HN3.out⟩
          case measure => simp [intOf]; omega
        · gi_wp2
          refine bodyPost_ret (results_none rfl _ _ _) rfl ?_
          exact ⟨⟨_, rfl⟩, .inr ⟨_, trivial, hJx3⟩⟩
    · have hlt' : ¬ ((20 * k : Nat) : Int) < (len : Int) := by omega
      have HN := Aside0.mk hnx
      have HJ := Aside0.mk hJs
      have HP : Aside0 (partsN pre = List.range ((len + 19) / 20)) := ⟨by rw [hpre]; congr 1; omega⟩
      clear hnx hJs hpre
      gi_wp2
      go_end0
      exact ⟨⟨_, rfl⟩, .inl ⟨pre, HP.out, HJ.out⟩⟩
theorem chunkIt_stops (n : Nat) (hn : 1 ≤ n) (B1 B2 : Nat) (ad : Addr) (len c : Nat) (hlen : len ≤ 1000000) (hc : len ≤ c) (w : World) (h1 : B1 < w.heap.size) (h2 : B2 < w.heap.size) (hB1 : w.cell? ⟨B1, 0, none⟩ = some (.slice (some ad) len c)) (hB2 : w.cell? ⟨B2, 0, none⟩ = some (.int .i64 20)) :
    SeqStopsK Fence.wide n Tryd.prog 62 #[.pointer (some ⟨B1, 0, none⟩), .pointer (some ⟨B2, 0, none⟩)] (encPt ad len) (KeepB B1 B2) (fun ys => partsN ys = List.range ((len + 19) / 20)) (fun _ => True) ((len + 19) / 20) w := by
  intro l J Jx W hb hJ _ hY h0
  exact chunkIt_in n hn l B1 B2 ad len c hlen hc J Jx (fun pre W' q h => hJ pre W' _ none h ⟨rfl, rfl, rfl, Nat.le_refl _, fun _ _ _ => rfl⟩ (fun _ e => by cases e)) hY W ((hb.cell (p := ⟨B1, 0, none⟩) h1).trans hB1) ((hb.cell (p := ⟨B2, 0, none⟩) h2).trans hB2) h0
end Go.Proofs.YtbgmnmjokdfmlaaDoor.PA
namespace Go
section
variable {P : Program} {ops : Array Oper} {Q : Exit → Act → World → Prop} {md : Region.Mode} {S : World → Prop}
def wpAnyG (P : Program) (md : Region.Mode) (ops : Array Oper) (Q : Exit → Act → World → Prop) (S : World → Prop) (n : Nat) (L : Array Bool → Act → World → Prop) : Nat → Array Bool → Act → World → Prop
  | 0, listed, a, w => L listed a w
  | f + 1, listed, a, w =>
    Region.ready md ops listed ≠ [] ∧ ∀ i ∈ Region.ready md ops listed, i < n ∧ wpOp P ops Q i (fun a' w' => S w' ∧ wpAnyG P md ops Q S n L f (listed.setIfInBounds i true) a' w') a w
theorem wpAny_of_G {n g : Nat} {L : Array Bool → Act → World → Prop} (hL : ∀ listed a w, L listed a w → wpAny P md ops Q g listed a w) :
    ∀ (f : Nat) (listed : Array Bool) (a : Act) (w : World), wpAnyG P md ops Q S n L f listed a w → wpAny P md ops Q (f + g) listed a w
  | 0, listed, a, w, h => by rw [Nat.zero_add]; exact hL _ _ _ h
  | f + 1, listed, a, w, h => by
    rw [show f + 1 + g = (f + g) + 1 by omega]
    exact ⟨fun h0 => absurd h0 h.1, fun i hi => wpOp_mono (fun a' w' h' => wpAny_of_G hL f _ a' w' h'.2) (h.2 i hi).2⟩
theorem wpAnyG_first {n i : Nat} {oi : Oper} {v : Value} {L : Array Bool → Act → World → Prop} (hi : ops[i]? = some oi) (hsel : ∀ (j : Nat) (o : Oper) cs b, ops[j]? = some o → o.op ≠ .select cs b)
    (hs : Region.sinkB md ops n = true) (hc : Region.chainB md ops n = true) (hn : n < ops.size) (hin : i < n) (hQ : ∀ c a w, Q (.panic c) (a.put oi.dst v) w → Q (.panic c) a w)
    (hdone : ∀ listed a w, L listed a w → ∀ j ∈ Region.ready md ops listed, n ≤ j) :
    ∀ (f : Nat) (listed : Array Bool) (a : Act) (w : World), HeadInv md ops n listed →
      (∀ j oj, ops[j]? = some oj → j ≠ i → listed.getD j true = false → (∀ e ∈ oj.after, Region.binds md e = true → e.on ≠ i) → oi.apart ops oj = true) →
      i ∈ Region.ready md ops listed → YieldsIf P ops S oi v a → S w →
      wpAnyG P md ops Q S n L f (listed.setIfInBounds i true) (a.put oi.dst v) w → wpAnyG P md ops Q S n L (f + 1) listed a w := by
  intro f
  induction f with
  | zero =>
    intro listed a w inv _ hr hy hS H
    have hun := (mem_ready.1 hr).1
    refine ⟨fun h => (by rw [h] at hr; cases hr), fun j hj => ?_⟩
    have hjn : j < n := by
      rcases Nat.lt_or_ge j n with h | h
      · exact h
      · exact absurd hj (tail_waits hs hc hn inv _ i rfl hin hun j h)
    refine ⟨hjn, ?_⟩
    by_cases hji : j = i
    · subst hji; exact hy.wpOp hi hS ⟨hS, H⟩
    · have := hdone _ _ _ H j (ready_mono hj hji)
      omega
  | succ f ih =>
    intro listed a w inv hfree hr hy hS H
    have hun := (mem_ready.1 hr).1
    refine ⟨fun h => (by rw [h] at hr; cases hr), fun j hj => ?_⟩
    have hjn : j < n := by
      rcases Nat.lt_or_ge j n with h | h
      · exact h
      · exact absurd hj (tail_waits hs hc hn inv _ i rfl hin hun j h)
    refine ⟨hjn, ?_⟩
    by_cases hji : j = i
    · subst hji; exact hy.wpOp hi hS ⟨hS, H⟩
    · have h1 := (H.2 j (ready_mono hj hji)).2
      obtain ⟨hjun, oj, hoj, hall⟩ := mem_ready.1 hj
      have hnot : ∀ e ∈ oj.after, Region.binds md e = true → e.on ≠ i := fun e he hb heq => by
        have h1 := hall e he hb
        rw [heq, getD_both hun] at h1
        cases h1
      have h2 := wpOp_putIf hoj (hfree j oj hoj hji hjun hnot) (fun cs b => hsel i oi cs b hi) (fun cs b => hsel j oj cs b hoj) hQ hy h1
      have hfree' : ∀ k ok, ops[k]? = some ok → k ≠ i → (listed.setIfInBounds j true).getD k true = false →
          (∀ e ∈ ok.after, Region.binds md e = true → e.on ≠ i) → oi.apart ops ok = true := fun k ok hk hki hun hno => by
        refine hfree k ok hk hki ?_ hno
        by_cases hjk : j = k
        · subst hjk; exact hjun
        · rw [getD_set_ne true hjk] at hun; exact hun
      refine wpOp_mono (fun a' w' h3 => ⟨h3.2.1, ih (listed.setIfInBounds j true) a' w' (inv.set hj hjn) hfree' (ready_mono hr (Ne.symm hji)) h3.1 h3.2.1 ?_⟩) h2
      rw [Array.setIfInBounds_comm _ _ hji]
      exact h3.2.2
def GEnd (P : Program) (ops : Array Oper) (Q : Exit → Act → World → Prop) (n : Nat) (listed : Array Bool) (a : Act) (w : World) : Prop :=
  Region.seqB .any ops (ops.size - n) n listed = true ∧ wpList P ops Q (ops.toList.drop n) a w
def GHead (P : Program) (ops : Array Oper) (Q : Exit → Act → World → Prop) (S : World → Prop) (n f : Nat) (listed : Array Bool) (a : Act) (w : World) : Prop :=
  HeadInv .any ops n listed → wpAnyG P .any ops Q S n (GEnd P ops Q n) f listed a w
theorem GHead.take {n f i : Nat} {oi : Oper} {v : Value} {listed : Array Bool} {a : Act} {w : World} (hi : ops[i]? = some oi)
    (hB : (Region.noSelect ops && decide (n < ops.size) && Region.sinkB .any ops n && Region.chainB .any ops n && decide (i < n) && Region.free .any ops listed i && (Region.ready .any ops listed).contains i) = true)
    (hQ : ∀ c a w, Q (.panic c) (a.put oi.dst v) w → Q (.panic c) a w) (hy : YieldsIf P ops S oi v a) (hS : S w)
    (h : GHead P ops Q S n f (listed.setIfInBounds i true) (a.put oi.dst v) w) : GHead P ops Q S n (f + 1) listed a w := fun inv => by
  simp only [Bool.and_eq_true, decide_eq_true_eq] at hB
  obtain ⟨⟨⟨⟨⟨⟨hsel, hn⟩, hs⟩, hc⟩, hin⟩, hf⟩, hr⟩ := hB
  have hr' : i ∈ Region.ready .any ops listed := by simpa using hr
  exact wpAnyG_first hi (Region.noSelect_spec hsel) hs hc hn hin hQ (fun listed' a' w' hL => seqB_ready hL.1) f listed a w inv (Region.free_spec hi hf) hr' hy hS (h (inv.set hr' hin))
theorem GHead.take' {n f i d : Nat} {oi : Oper} {v : Value} {listed : Array Bool} {a : Act} {w : World} (hi : ops[i]? = some oi) (hd : oi.dst = some d)
    (hB : (Region.noSelect ops && decide (n < ops.size) && Region.sinkB .any ops n && Region.chainB .any ops n && decide (i < n) && Region.free .any ops listed i && (Region.ready .any ops listed).contains i) = true)
    (hQ : ∀ c a w, Q (.panic c) (a.put oi.dst v) w → Q (.panic c) a w) (hy : YieldsIf P ops S oi v a) (hS : S w)
    (h : GHead P ops Q S n f (listed.setIfInBounds i true) { a with tmps := a.tmps.setIfInBounds d v } w) : GHead P ops Q S n (f + 1) listed a w :=
  GHead.take hi hB hQ hy hS (by rw [hd]; exact h)
theorem GHead.one {n f i : Nat} {oi : Oper} {listed : Array Bool} {a : Act} {w : World} (hi : ops[i]? = some oi)
    (hB : (decide (Region.ready .any ops listed = [i]) && decide (i < n)) = true) (hw : Region.wanted oi (yielded ops a.tmps) = true)
    (h : ∀ K : Act → World → Prop, (∀ a' w', S w' → GHead P ops Q S n f (listed.setIfInBounds i true) a' w' → K a' w') → Oper.wp P oi a w K Q) : GHead P ops Q S n (f + 1) listed a w := fun inv => by
  simp only [Bool.and_eq_true, decide_eq_true_eq] at hB
  obtain ⟨hr, hin⟩ := hB
  refine ⟨fun h0 => (by rw [hr] at h0; cases h0), fun j hj => ?_⟩
  have hji : j = i := by rw [hr] at hj; simpa using hj
  subst hji
  refine ⟨hin, ?_⟩
  refine wpOp_step hi fun K hK => ?_
  rw [if_pos hw]
  exact h K fun a' w' hS' hG => hK a' w' ⟨hS', hG (inv.set hj hin)⟩
theorem GHead.nil {n : Nat} {listed : Array Bool} {a : Act} {w : World} (hB : Region.seqB .any ops (ops.size - n) n listed = true) (h : wpList P ops Q (ops.toList.drop n) a w) : GHead P ops Q S n 0 listed a w := fun _ => ⟨hB, h⟩
theorem GHead.last {n : Nat} {oi : Oper} {listed : Array Bool} {a : Act} {w : World} (hi : ops[n]? = some oi) (hB : (Region.seqB .any ops (ops.size - n) n listed && decide (ops.size = n + 1)) = true) (hw : Region.wanted oi (yielded ops a.tmps) = true)
    (h : ∀ K : Act → World → Prop, (∀ a' w', Q .normal a' w' → K a' w') → Oper.wp P oi a w K Q) : GHead P ops Q S n 0 listed a w := by
  simp only [Bool.and_eq_true, decide_eq_true_eq] at hB
  refine GHead.nil hB.1 ?_
  have hl : ops.toList.drop n = [oi] := by
    obtain ⟨hlt, he⟩ := Array.getElem?_eq_some_iff.1 hi
    rw [List.drop_eq_getElem_cons (by simpa using hlt), List.drop_eq_nil_of_le (by simp [hB.2])]
    simp [he]
  rw [hl]
  simp only [wpList, if_pos hw]
  exact .inl (h _ (fun _ _ h => h))
theorem GHead.start {n : Nat} {a : Act} {w : World} (hn : n ≤ ops.size) (h : GHead P ops Q S n n (Array.replicate ops.size false) a w) : wpAny P .any ops Q ops.size (Array.replicate ops.size false) a w := by
  have inv0 : HeadInv .any ops n (Array.replicate ops.size false) :=
    ⟨by simp, fun j oj _ hl => (by rw [getD_replicate_false] at hl; cases hl), fun t _ ht => getD_in (by simpa using ht) (getD_replicate_false _ _)⟩
  have H := wpAny_of_G (Q := Q) (g := ops.size - n) (fun listed a' w' (hL : GEnd P ops Q n listed a' w') => by
    have hlen : (ops.toList.drop n).length = ops.size - n := by simp
    have := wpAny_of_seq (md := .any) (Q' := Q) (ops.toList.drop n) n listed a' w' (fun j => by simp [List.getElem?_drop]) (by rw [hlen]; exact hL.1) hL.2
    rwa [hlen] at this) n _ a w (h inv0)
  rwa [Nat.add_sub_cancel' hn] at H
end
section
variable {P : Program} {ops : Array Oper} {Q : Exit → Act → World → Prop} {md : Region.Mode}
theorem wpOpIn_of_wide (l n : Nat) (hnl : ¬ LetsOut Q) (hnd : ∀ (j : Nat) (o : Oper) c, ops[j]? = some o → o.op ≠ .defer c) {i : Nat} {K K' : Act → World → Prop} {a : Act} {w : World} (hK : ∀ a w, K a w → K' a w) (h : wpOp P ops Q i K a w) : wpOpIn (Fence.wide.inRound l) n P ops Q i K' a w := by
  unfold wpOp at h
  unfold wpOpIn
  split
  · rename_i ho; simp only [ho] at h; exact hK _ _ h
  · rename_i o ho
    simp only [ho] at h
    split
    · rename_i hw
      simp only [hw, if_true] at h
      rcases h with h | ⟨_, h⟩
      · refine ⟨fun _ _ => trivial, ?_⟩
        rw [Oper.semAt_eq _ _ _ (fun c => hnd i o c ho)]
        unfold Oper.wp at h
        generalize (execOp a.eval o).run P w = r at *
        cases r with
        | ok x w' =>
          cases x <;> simp only [Oper.upon] at h <;> simp only [Oper.uponIn]
          case value v => exact hK _ _ h
          case skip => exact hK _ _ h
          case defer d => exact hK _ _ h
          case enter f args =>
            refine ⟨fun hd => by simp [Fence.wide] at hd, (CallsIn.inRound l (callsIn_wide.2 h)).mono fun e w'' he => ?_⟩
            cases e with
            | returned u => exact hK _ _ he
            | panicked c => exact he
            | outgrown => exact he
          case row row args =>
            refine ⟨fun hd => by simp [Fence.wide] at hd, ?_⟩
            intro c cs _
            obtain ⟨v, w'', hR, hs⟩ := h c cs
            exact ⟨v, w'', hK _ _ hR, stepsIn_wide.2 hs⟩
        | halt x w' => cases x <;> simp only [Oper.upon] at h <;> simp only [Oper.uponIn] <;> exact h
      · exact absurd h hnl
    · rename_i hw
      simp only [hw] at h
      exact ⟨fun _ _ => trivial, hK _ _ h⟩
theorem wpAnyIn_of_wide (l n : Nat) (hnl : ¬ LetsOut Q) (hnd : ∀ (j : Nat) (o : Oper) c, ops[j]? = some o → o.op ≠ .defer c) : ∀ (fuel : Nat) (listed : Array Bool) (a : Act) (w : World),
    wpAny P md ops Q fuel listed a w → wpAnyIn (Fence.wide.inRound l) n P md ops Q fuel listed a w
  | 0, _, _, _, h => h
  | fuel + 1, _, _, _, h => ⟨h.1, fun i hi => wpOpIn_of_wide l n hnl hnd (fun a' w' h' => wpAnyIn_of_wide l n hnl hnd fuel _ a' w' h') (h.2 i hi)⟩
def noDefer (ops : Array Oper) : Bool := ops.all fun o => match o.op with | .defer _ => false | _ => true
theorem noDefer_spec (h : noDefer ops = true) (j : Nat) (o : Oper) (c : Call) (ho : ops[j]? = some o) : o.op ≠ .defer c := by
  intro hc
  have := Array.all_eq_true'.1 h o (Array.mem_of_getElem? ho)
  rw [hc] at this
  cases this
theorem wpIn_region_wide {id : Nat} (l n : Nat) {a : Act} {w : World} (hnl : ¬ LetsOut Q) (hm : P.follows .mixedOrders = true) (hd : noDefer ops = true)
    (h : wpAny P .any ops Q ops.size (Array.replicate ops.size false) a w.drew) : (Code.region id ops true).wpIn (Fence.wide.inRound l) n P Q a w :=
  wpIn_region_any hm (wpAnyIn_of_wide l n hnl (noDefer_spec hd) _ _ _ _ h)
theorem wpIn_region_wide0 {id : Nat} (l n : Nat) {a : Act} {w : World} (hm : P.follows .mixedOrders = true) (hd : noDefer ops = true)
    (h : wpAny P .any ops (fun e a w => e = .normal ∧ Q .normal a w) ops.size (Array.replicate ops.size false) a w.drew) : (Code.region id ops true).wpIn (Fence.wide.inRound l) n P Q a w :=
  wpIn_mono (Q := fun e a w => e = .normal ∧ Q .normal a w) (wpIn_region_wide l n (fun hl => by obtain ⟨_, _, h, _⟩ := hl; cases h) hm hd h) (fun e a w he => by obtain ⟨h1, h2⟩ := he; subst h1; exact h2)
end
end Go
namespace Go.Proofs.YtbgmnmjokdfmlaaDoor.PA
open Go.RowKit Go.Proofs.YtbgmnmjokdfmlaaDoor.G Go.Proofs.YtbgmnmjokdfmlaaDoorW.PrintWords Go.Proofs.YtbgmnmjokdfmlaaDoorW.PrintLast Go.Proofs.YtbgmnmjokdfmlaaDoorW.PrintMore
set_option maxHeartbeats 2000000 in
set_option maxRecDepth 100000 in
theorem growB.calls (n : Int) (w : World) (h0 : 0 ≤ n) (h1 : n ≤ 1000000) :
    Calls Tryd.prog 66 #[.slice none 0 0, .int .i64 n] w fun e w' => ∃ v : Value, e = .returned v ∧ Kd.R (Kd.int .u8) 5 w' w.heap.size (fun _ => True) v [] ∧ Below w.heap.size w w' := by
  have hneg : decide (n < 0) = false := decide_eq_false (by omega)
  have hw : IntKind.i64.wrap n = n := by rw [IntKind.wrap_i64]; omega
  have HB0 : Aside0 (Below w.heap.size w w) := ⟨Below.refl _ _⟩
  obtain ⟨i05, hi05, _, hsz5, _⟩ := info_parts infoU8
  have hcut0 := cut_to (P := Tryd.prog) 22 5 .i64 Tryd.underlying22 hi05 none 0 0 0 (by omega) (by omega) (by omega)
  have HN0 : Aside0 (0 ≤ n ∧ n ≤ 1000000) := ⟨h0, h1⟩
  clear h0 h1
  go_enter Tryd.func66, Tryd.ntmps66
  by_cases hp : 0 < n
  · have hd : decide (0 < n) = true := decide_eq_true hp
    have HP := Aside0.mk hp
    clear hp
    go_wp2_with (first | ((with_reducible refine gate_dst (N := 22) rfl ?_); go_must (refine Kd.R_append_zeros (Kd.int .u8) (w0 := w) w.heap.size rfl (.tmp 20) (.tmp 21) 22 3 5 (.int .u8 0) 1 rfl Tryd.underlying22 Tryd.underlying3 infoU8 rfl (by decide) (by omega) (.slice none 0 0) [] 0 n (fun _ => True) rfl rfl rfl (fun _ _ => trivial) (Kd.R_nil _ _ _ _ _) HN0.out.1 (Below.refl _ _) (Nat.le_refl _) ?h6 ?_); (case h6 => (have := HN0.out; simp only [List.length_nil]; omega)); intro v4 w4 hR4 hB4 hg4 ho4; obtain ⟨g4, c4, rfl, hb4, hl4, _⟩ := Kd.R_form hR4 (by have := HP.out; simp only [List.nil_append, List.length_replicate]; omega); have hcc := (Kd.R_reads' hR4).2.1; have hcut4 := cut_to (P := Tryd.prog) 22 5 .i64 Tryd.underlying22 hi05 (some ⟨g4, 0, none⟩) _ c4 0 (by omega) (by omega) hcc; have HR4 := Aside0.mk (Kd.R_take hR4 (Nat.zero_le _)); have HB4 := Aside0.mk hB4; clear hR4 hB4 hg4 ho4))
    go_ret
    exact ⟨_, rfl, HR4.out, HB4.out⟩
  · obtain rfl : n = 0 := by have := HN0.out; omega
    go_wp2
    go_ret
    exact ⟨_, rfl, Kd.R_nil _ _ _ _ _, Below.refl _ _⟩
theorem flatB_step (Ls : List (List Int)) (k : Nat) (hk : k < Ls.length) : (Ls.take (k + 1)).flatten = (Ls.take k).flatten ++ rd_L6 Ls (k : Int) := by
  have e : rd_L6 Ls (k : Int) = Ls[k] := by simp [rd_L6, List.getD_eq_getElem?_getD, List.getElem?_eq_getElem hk]
  rw [List.take_succ_eq_append_getElem hk, List.flatten_append, e]
  simp
theorem flatB_le (Ls : List (List Int)) (k : Nat) : (Ls.take k).flatten.length ≤ Ls.flatten.length := by
  have : Ls.flatten.length = (Ls.take k).flatten.length + (Ls.drop k).flatten.length := by rw [← List.length_append, ← List.flatten_append, List.take_append_drop]
  omega
set_option maxHeartbeats 2000000 in
set_option maxRecDepth 100000 in
theorem concatB.calls (A0 : Option Addr) (c0 n : Nat) (Ls : List (List Int)) (w : World) (hn : Ls.length = n) (hr0 : Kd.C (Kd.slice 5 (Kd.int .u8)) w A0 n Ls) (hlen : n ≤ 1000000) (hflat : Ls.flatten.length ≤ 1000000) :
    Calls Tryd.prog 33 #[.slice A0 n c0] w fun e w' => ∃ v : Value, e = .returned v ∧ Kd.R (Kd.int .u8) 5 w' w.heap.size (fun _ => True) v Ls.flatten ∧ Below w.heap.size w w' := by
  subst hn
  have HR := Aside0.mk hr0
  have HL := Aside0.mk hflat
  clear hr0 hflat
  go_enter Tryd.func33, Tryd.ntmps33
  go_wp2
  go_loopw [3, 11] (fun s i wr => ∃ k : Nat, k ≤ Ls.length ∧ i = .int .i64 k ∧ s = .int .i64 (((Ls.take k).flatten.length : Nat) : Int) ∧ Aside0 (Below w.heap.size w wr)) (fun _ i _ => Ls.length - (intOf i).toNat)
  case atStart => exact ⟨0, Nat.zero_le _, rfl, rfl, ⟨Below.refl _ _⟩⟩
  case round =>
    obtain ⟨k, hk, rfl, rfl, HB⟩ := hrel
    by_cases hlt : k < Ls.length
    · obtain ⟨ad, A1, c1, rfl, h0, _, _⟩ := at_L6 (Kd.C_below HR.out HB.out) (k : Int) (by omega) (by omega)
      rw [Int.toNat_natCast] at h0
      have hst := flatB_step Ls k hlt
      have hle1 := flatB_le Ls (k + 1)
      have hlL := HL.out
      have HST : Aside0 ((((Ls.take (k + 1)).flatten.length : Nat) : Int) = ((Ls.take k).flatten.length : Int) + ((rd_L6 Ls (k : Int)).length : Int)) := ⟨by rw [hst, List.length_append]; omega⟩
      have hneg : decide (((Ls.take k).flatten.length : Int) + ((rd_L6 Ls (k : Int)).length : Int) < 0) = false := decide_eq_false (by omega)
      have hw : IntKind.i64.wrap (((Ls.take k).flatten.length : Int) + ((rd_L6 Ls (k : Int)).length : Int)) = ((Ls.take k).flatten.length : Int) + ((rd_L6 Ls (k : Int)).length : Int) := by rw [IntKind.wrap_i64]; have := HST.out; omega
      clear hst hle1 hlL
      generalize rd_L6 Ls (k : Int) = y at h0 HST hneg hw
      generalize (Ls.take k).flatten.length = m at HST hneg hw
      go_wp2
      go_roundw
      case rel => exact ⟨k + 1, by omega, by go_num, by rw [HST.out], HB⟩
      case measure => simp [intOf]; omega
    · obtain rfl : k = Ls.length := by omega
      rw [List.take_length]
      have HL0 : Aside0 ((0 : Int) ≤ (Ls.flatten.length : Int) ∧ (Ls.flatten.length : Int) ≤ 1000000) := ⟨by have := HL.out; omega⟩
      generalize Ls.flatten.length = N at HL0 ⊢
      go_wp2_with (first | (go_at_call 66; (with_reducible refine (growB.calls (N : Int) _ HL0.out.1 HL0.out.2).mono ?_); rintro e w2 ⟨v2, rfl, hr2, hb2⟩; have HR2 := Aside0.mk (Kd.R_lower hr2 HB.out.size); have HB2 := Aside0.mk (below_step HB.out hb2); clear hr2 hb2))
      go_loopw [6, 27] (fun v i wq => ∃ k : Nat, k ≤ Ls.length ∧ i = .int .i64 k ∧ Aside0 (Kd.R (Kd.int .u8) 5 wq w.heap.size (fun _ => True) v (Ls.take k).flatten) ∧ Aside0 (Below w.heap.size w wq)) (fun _ i _ => Ls.length - (intOf i).toNat)
      case atStart => exact ⟨0, Nat.zero_le _, rfl, HR2, HB2⟩
      case round =>
        clear HR2 HB2 HB
        obtain ⟨k, hk, rfl, HO, HB⟩ := hrel
        by_cases hlt : k < Ls.length
        · obtain ⟨ad, A1, c1, rfl, h0, _, hC⟩ := at_L6 HR.out (k : Int) (by omega) (by omega)
          rw [Int.toNat_natCast] at h0
          have h0' := pw_cell_below HB.out h0
          have HF := Aside0.mk (Kd.C_below hC HB.out)
          have HST := Aside0.mk (flatB_step Ls k hlt)
          have HLE := Aside0.mk (flatB_le Ls (k + 1))
          clear h0 hC
          generalize rd_L6 Ls (k : Int) = y at h0' HST HF
          go_wp2_with (first | ((with_reducible refine gate_dst (N := 33) rfl ?_); go_must (refine Kd.R_append_row (Value.int .u8) 0 (h1 := fun _ => rfl) (w0 := w) w.heap.size rfl (.tmp 31) (.tmp 32) 22 5 (.int .u8 0) 1 rfl Tryd.underlying22 infoU8 rfl (by decide) _ (Ls.take k).flatten y A1 y.length c1 (fun _ => True) rfl rfl (fun _ _ => trivial) HO.out HF.out HB.out HB.out.size ?h6 ?_); (case h6 => (have h1 := HST.out; have h2 := HLE.out; have h3 := HL.out; rw [h1, List.length_append] at h2; omega)); intro v4 w4 hR4 hB4 hg4 ho4; have HR4 := Aside0.mk hR4; have HB4 := Aside0.mk hB4; clear hR4 hB4 hg4 ho4))
          go_roundw
          case rel => exact ⟨k + 1, by omega, by go_num, ⟨by rw [HST.out]; exact HR4.out⟩, HB4⟩
          case measure => simp [intOf]; omega
        · obtain rfl : k = Ls.length := by omega
          go_wp2
          go_ret
          exact ⟨_, rfl, by have := HO.out; rwa [List.take_length] at this, HB.out⟩
theorem four_C (W : World) (g : Nat) (A1 A2 A3 A4 : Option Addr) (c1 c2 c3 c4 : Nat) (l1 l2 l3 l4 : List Int) (t : Nat) (fr : Nat × Nat) (hb : W.heap[g]? = some (.cells #[.slice A1 l1.length c1, .slice A2 l2.length c2, .slice A3 l3.length c3, .slice A4 l4.length c4] t fr))
    (h1 : Kd.C (Kd.int .u8) W A1 l1.length l1) (k1 : l1.length ≤ c1) (h2 : Kd.C (Kd.int .u8) W A2 l2.length l2) (k2 : l2.length ≤ c2) (h3 : Kd.C (Kd.int .u8) W A3 l3.length l3) (k3 : l3.length ≤ c3) (h4 : Kd.C (Kd.int .u8) W A4 l4.length l4) (k4 : l4.length ≤ c4) :
    Kd.C (Kd.slice 5 (Kd.int .u8)) W (some ⟨g, 0, none⟩) 4 [l1, l2, l3, l4] := by
  have key : ∀ (j : Nat) (u : Value), #[Value.slice A1 l1.length c1, .slice A2 l2.length c2, .slice A3 l3.length c3, .slice A4 l4.length c4][j]? = some u → W.cell? (Addr.add ⟨g, 0, none⟩ j) = some u := fun j u hu => by
    rw [add_plain]
    exact (cell_of_row W g j _ t fr hb).trans hu
  have one : ∀ (j : Nat) (u : Value), #[Value.slice A1 l1.length c1, .slice A2 l2.length c2, .slice A3 l3.length c3, .slice A4 l4.length c4][j]? = some u → ∀ i v, [u][i]? = some v → W.cell? (Addr.add ⟨g, 0, none⟩ (j * 1 + i)) = some v := fun j u hu i v hv => by
    match i, hv with
    | 0, hv =>
      injection hv with hv
      subst hv
      rw [Nat.mul_one, Nat.add_zero]
      exact key j u hu
    | n + 1, hv => simp at hv
  refine ⟨rfl, by decide, fun _ => ⟨_, rfl, fun j p hj => ?_⟩⟩
  match j, hj with
  | 0, hj => injection hj with hj; subst hj; exact ⟨_, rfl, ⟨A1, c1, rfl, k1, h1⟩, one 0 _ rfl⟩
  | 1, hj => injection hj with hj; subst hj; exact ⟨_, rfl, ⟨A2, c2, rfl, k2, h2⟩, one 1 _ rfl⟩
  | 2, hj => injection hj with hj; subst hj; exact ⟨_, rfl, ⟨A3, c3, rfl, k3, h3⟩, one 2 _ rfl⟩
  | 3, hj => injection hj with hj; subst hj; exact ⟨_, rfl, ⟨A4, c4, rfl, k4, h4⟩, one 3 _ rfl⟩
  | n + 4, hj => simp at hj
end Go.Proofs.YtbgmnmjokdfmlaaDoor.PA
namespace Go.Proofs.YtbgmnmjokdfmlaaDoor.PA
open Go.RowKit Go.Proofs.YtbgmnmjokdfmlaaDoor.G Go.Proofs.YtbgmnmjokdfmlaaDoorW.PrintWords Go.Proofs.YtbgmnmjokdfmlaaDoorW.PrintLast Go.Proofs.YtbgmnmjokdfmlaaDoorW.PrintMore
def partS (l : List S54) (j : Nat) : List S54 := (l.take (j * 20 + plen l.length j)).drop (j * 20)
theorem partS_len (l : List S54) (j : Nat) : (partS l j).length = plen l.length j := by
  unfold partS plen
  rw [List.length_drop, List.length_take]
  omega
theorem partS_mem {l : List S54} {j : Nat} {x : S54} (h : x ∈ partS l j) : x ∈ l := List.mem_of_mem_take (List.mem_of_mem_drop h)
theorem partS_rd (l : List S54) (j i : Nat) (h : i < plen l.length j) : rd_T54 (partS l j) (i : Int) = rd_T54 l ((j * 20 + i : Nat) : Int) := by
  simp only [rd_T54, Int.toNat_natCast, List.getD_eq_getElem?_getD, partS, List.getElem?_drop, List.getElem?_take]
  rw [if_pos (by omega)]
theorem canS_part {l : List S54} (h : canS l = true) (j : Nat) : canS (partS l j) = true := by
  unfold canS at h ⊢
  rw [partS_len]
  simp only [Bool.and_eq_true, List.all_eq_true, List.mem_range, decide_eq_true_eq] at h ⊢
  refine ⟨fun i hi => ?_, by unfold plen; omega⟩
  rw [partS_rd l j i (by omega), partS_rd l j (i + 1) (by omega)]
  exact h.1 (j * 20 + i) (by unfold plen at hi; omega)
theorem encL_len {q : List S54} (hq : q.length ≤ 20) (hok : ∀ x ∈ q, okS x) (hc : canS q = true) : (encL q).length ≤ 410 := by
  have h1 := (pkS_ok (encP q q.length) _ (Nat.le_refl _)).1
  rw [pkS_all] at h1
  rw [encL, List.length_append, beL_length]
  have h3 := encP_len q hok q.length (Nat.le_refl _)
  have := h1.near
  omega
noncomputable def encPart (u : List Int) (q : List S54) : List Int := beL (u.length + (encL q).length) 4 ++ (u ++ (encL q))
noncomputable def encPs (u : List Int) (l : List S54) (k : Nat) : List Int := (List.range k).flatMap fun j => encPart u (partS l j)
noncomputable def encSer (x : S60) : List Int := encPs (encLb x.f0) x.f1 ((x.f1.length + 19) / 20)
noncomputable def encC (l : List S60) : List Int := l.flatMap encSer
theorem encPs_step (u : List Int) (l : List S54) (k : Nat) : encPs u l (k + 1) = encPs u l k ++ encPart u (partS l k) := by
  simp [encPs, List.range_succ, List.flatMap_append]
theorem encPart_len {u : List Int} {q : List S54} (hu : u.length ≤ 600) (hq : q.length ≤ 20) (hok : ∀ x ∈ q, okS x) (hc : canS q = true) : (encPart u q).length ≤ 1014 := by
  have := encL_len hq hok hc
  rw [encPart, List.length_append, List.length_append, beL_length]
  omega
theorem encPs_len {u : List Int} {l : List S54} (hu : u.length ≤ 600) (hok : ∀ x ∈ l, okS x) (hc : canS l = true) : ∀ k, (encPs u l k).length ≤ 1014 * k
  | 0 => by simp [encPs]
  | k + 1 => by
    have ih := encPs_len hu hok hc k
    have := encPart_len (q := partS l k) hu (by rw [partS_len]; unfold plen; omega) (fun x hx => hok x (partS_mem hx)) (canS_part hc k)
    rw [encPs_step, List.length_append]
    omega
theorem encC_step (l : List S60) (k : Nat) (h : k < l.length) : encC (l.take (k + 1)) = encC (l.take k) ++ encSer (rd_T60 l (k : Int)) := by
  have e : rd_T60 l (k : Int) = l[k] := by simp [rd_T60, List.getD_eq_getElem?_getD, List.getElem?_eq_getElem h]
  rw [List.take_succ_eq_append_getElem h, e, encC, encC, List.flatMap_append]
  simp
theorem encLb_len {l : List S65} (h : canL l = true) : (encLb l).length ≤ 600 := by
  have h1 := encK_len h l.length (Nat.le_refl _)
  have h2 := (canL_parts h).2.1
  rw [encK_all] at h1
  omega
theorem encSer_len {x : S60} (h : canX x = true) (h60 : x.f1.length ≤ 480) (hok : ∀ s ∈ x.f1, okS s) : (encSer x).length ≤ 25000 := by
  unfold canX at h
  simp only [Bool.and_eq_true] at h
  have := encPs_len (encLb_len h.1) hok h.2.2 ((x.f1.length + 19) / 20)
  have h3 : (x.f1.length + 19) / 20 ≤ 24 := by omega
  rw [encSer]
  have := Nat.mul_le_mul_left 1014 h3
  omega
theorem encC_len {l : List S60} (h : canC l = true) (h60 : ∀ x ∈ l, x.f1.length ≤ 480) (hok : okZ l) : ∀ k, k ≤ l.length → (encC (l.take k)).length ≤ 25000 * k
  | 0, _ => by simp [encC]
  | k + 1, hk => by
    have ih := encC_len h h60 hok k (by omega)
    have hm := rd_memZ l k (by omega)
    have h1 := canC_parts h k (by omega)
    unfold okC at h1
    rw [Bool.and_eq_true] at h1
    have := encSer_len h1.1 (h60 _ hm) (hok _ hm).2.2.2
    rw [encC_step l k (by omega), List.length_append]
    omega
noncomputable def encYs (u : List Int) (l : List S54) (ks : List Nat) : List Int := ks.flatMap fun j => encPart u (partS l j)
theorem encYs_snoc (u : List Int) (l : List S54) (ks : List Nat) (k : Nat) : encYs u l (ks ++ [k]) = encYs u l ks ++ encPart u (partS l k) := by simp [encYs, List.flatMap_append]
theorem encYs_len {u : List Int} {l : List S54} (hu : u.length ≤ 600) (hok : ∀ x ∈ l, okS x) (hc : canS l = true) : ∀ ks : List Nat, (encYs u l ks).length ≤ 1014 * ks.length
  | [] => by simp [encYs]
  | k :: ks => by
    have ih := encYs_len hu hok hc ks
    have := encPart_len (q := partS l k) hu (by rw [partS_len]; unfold plen; omega) (fun x hx => hok x (partS_mem hx)) (canS_part hc k)
    have e : encYs u l (k :: ks) = encPart u (partS l k) ++ encYs u l ks := rfl
    rw [e, List.length_append, List.length_cons]
    omega
structure But (O B : Nat) (a b : World) : Prop where
  os : b.os = a.os
  tape : b.tape = a.tape
  output : b.output = a.output
  size : a.heap.size ≤ b.heap.size
  block : ∀ k, k < B → k ≠ O → b.heap[k]? = a.heap[k]?
theorem But.refl (O B : Nat) (a : World) : But O B a a := ⟨rfl, rfl, rfl, Nat.le_refl _, fun _ _ _ => rfl⟩
theorem But.trans {O B : Nat} {a b c : World} (h : But O B a b) (k : But O B b c) : But O B a c :=
  ⟨k.os.trans h.os, k.tape.trans h.tape, k.output.trans h.output, Nat.le_trans h.size k.size, fun i hi hn => (k.block i hi hn).trans (h.block i hi hn)⟩
theorem But.of_below {O B : Nat} {a b : World} (h : Below B a b) : But O B a b := ⟨h.os, h.tape, h.output, h.size, fun k hk _ => h.block k hk⟩
theorem But.below {O B n : Nat} {a b : World} (h : But O B a b) (h1 : n ≤ O) (h2 : n ≤ B) : Below n a b := ⟨h.os, h.tape, h.output, h.size, fun k hk => h.block k (by omega) (by omega)⟩
theorem But.setCell {O B : Nat} {a b : World} (h : But O B a b) (i : Nat) (v : Value) : But O B a (b.setCell ⟨O, i, none⟩ v) :=
  ⟨h.os, h.tape, h.output, by simpa using h.size, fun k hk hn => (Below.heap_setCell b ⟨O, i, none⟩ v k hn).trans (h.block k hk hn)⟩
theorem But.grown {O B : Nat} {a b c : World} {row : Option Nat} (h : But O B a b) (hg : b.grownBy c row) (hB : B ≤ a.heap.size) (hr : ∀ r, row = some r → B ≤ r) : But O B a c :=
  ⟨hg.os.trans h.os, hg.tape.trans h.tape, hg.output.trans h.output, Nat.le_trans h.size hg.size, fun k hk hn => (hg.block k (by have := h.size; omega) (fun e => by have := hr k e.symm; omega)).trans (h.block k hk hn)⟩
theorem R_turn {α : Type} {d : Kd α} {e base : Nat} {w1 w2 : World} {v : Value} {xs : List α} {row : Option Nat} (h : Kd.R d e w1 base (fun _ => True) v xs) (hg : w1.grownBy w2 row) (hr : ∀ r, row = some r → ∃ o : Obj, w1.heap[r]? = some o ∧ o.isCells = false) : Kd.R d e w2 base (fun _ => True) v xs :=
  Kd.R_mono (Kd.R_grown (Kd.R_bound h) hg (fun k hk he => by
    obtain ⟨o, ho, hc⟩ := hr k he.symm
    obtain ⟨q, _, cells, hcl⟩ := hk.2.2.2
    rw [hcl] at ho
    injection ho with ho
    subst ho
    cases hc)) (fun _ _ => trivial)
def markD (D : Nat) : Deferred := { target := .collected D, args := #[] }
theorem leaves_marks {F : Fence} {n : Nat} {P : Program} {fn : Func} {tmps : Array Value} {R : Ending → World → Prop} (M : World → Prop) (hend : ∀ W, M W → LeavesInM F n P fn tmps R [] .returning W) :
    ∀ (Ds : List Nat) (W : World), Ds.Nodup → (∀ D ∈ Ds, W.heap[D]? = some (.deferred (some []))) → (∀ D ∈ Ds, ∀ W, M W → W.heap[D]? = some (.deferred (some [])) → M (W.putObj D (.deferred none))) → M W → LeavesInM F n P fn tmps R (Ds.map markD) .returning W
  | [], W, _, _, _, hM => hend W hM
  | D :: Ds, W, hn, hD, hS, hM => by
    have h0 := hD D (by simp)
    refine ⟨by simp, .inl ⟨D, _, rfl, run_takeDeferred h0, ?_⟩⟩
    rw [List.nodup_cons] at hn
    refine leaves_marks M hend Ds _ hn.2 (fun D' h' => ?_) (fun D' h' => hS D' (by simp [h'])) (hS D (by simp) W hM h0)
    rw [World.putObj_heap_other (fun e => hn.1 (by subst e; exact h'))]
    exact hD D' (by simp [h'])
end Go.Proofs.YtbgmnmjokdfmlaaDoor.PA
namespace Go.Proofs.YtbgmnmjokdfmlaaDoor.PA
open Go.RowKit Go.Proofs.YtbgmnmjokdfmlaaDoor.G Go.Proofs.YtbgmnmjokdfmlaaDoorW.PrintWords Go.Proofs.YtbgmnmjokdfmlaaDoorW.PrintLast Go.Proofs.YtbgmnmjokdfmlaaDoorW.PrintMore
attribute [local go_sem] Oper.semAt_some
set_option maxHeartbeats 4000000 in
set_option maxRecDepth 100000 in
theorem chunkF.calls (A1 : Option Addr) (n1 c1 : Nat) (W : World) :
    Calls Tryd.prog 31 #[.slice A1 n1 c1, .int .i64 20] W fun e w' => e = .returned (.func (.func 62) #[] #[.pointer (some ⟨W.heap.size, 0, none⟩), .pointer (some ⟨W.heap.size + 1, 0, none⟩)]) ∧ w' = (W.alloc (.cells #[.slice A1 n1 c1] 30)).alloc (.cells #[.int .i64 20] 3) := by
  go_enter Tryd.func31, Tryd.ntmps31
  go_wp2
  go_ret
  exact ⟨rfl, rfl⟩
set_option maxHeartbeats 4000000 in
set_option maxRecDepth 100000 in
theorem encC.calls (A : Option Addr) (c n : Nat) (l : List S60) (w : World) (hn : l.length = n) (hr : Kd.C k60 w A n l) (hc : n ≤ c) (hok : okZ l) (hl : n ≤ 8) (h60 : ∀ x ∈ l, x.f1.length ≤ 480) (hT : TabZ w) (h : canC l = true) :
    Calls Tryd.prog 14 #[.slice A n c] w fun e w' => ∃ v : Value, e = .returned (.tuple #[v, .int .i64 0]) ∧ Kd.R (Kd.int .u8) 5 w' w.heap.size (fun _ => True) v (encC l) ∧ Below w.heap.size w w' := by
  subst hn
  have HR := Aside0.mk hr
  have HK := Aside0.mk hok
  have HT := Aside0.mk hT
  have H60 := Aside0.mk h60
  have HCAN : Aside0 (Calls Tryd.prog 17 #[.slice A l.length c] w fun e w' => e = .returned (.bool true) ∧ Below w.heap.size w w') := ⟨h ▸ canC.calls A c l.length l w rfl hr hc hok (by omega)⟩
  have HP := Aside0.mk (canC_parts h)
  have HEC := Aside0.mk (encC_len h h60 hok)
  clear hr hok hT h h60
  refine (callsIn_wide (n := 5)).1 (callsIn_of_wp_marks Tryd.func14 rfl trivial ?_ rfl)
  simp only [Tryd.ntmps14, List.size_toArray, List.length_cons, List.length_nil, Nat.reduceAdd, Nat.reduceSub, Array.replicate_succ, Array.replicate_zero, List.push_toArray, List.append_toArray, List.nil_append, List.cons_append]
  refine wpIn_wide.2 ?_
  go_wp2_with (first | (go_at_call 17; (with_reducible refine HCAN.out.mono ?_); rintro e w1 ⟨rfl, hb⟩; have HB1 := Aside0.mk hb; clear hb))
  have HB0 := Aside0.mk (below_alloc HB1.out (.cells #[.slice none 0 0] 22))
  have HO0 : (w1.alloc (.cells #[.slice none 0 0] 22)).heap[w1.heap.size]? = some (.cells #[.slice none 0 0] 22 (0, 0)) := World.alloc_heap_new _ _
  have HV0 : Aside0 (Kd.R (Kd.int .u8) 5 (w1.alloc (.cells #[.slice none 0 0] 22)) w.heap.size (fun _ => True) (.slice none 0 0) (encC (l.take 0))) := ⟨Kd.R_nil _ _ _ _ _⟩
  refine wp_loop_ghost_k (fun gk a wr => ∃ (k : Nat) (Ds : List Nat) (u6 u7 u8 u18 u19 u20 u21 u22 u23 u24 u25 u26 u27 u28 u29 u48 : Value), (k + gk = l.length ∧ Ds.Nodup ∧ (∀ D ∈ Ds, w1.heap.size < D ∧ wr.heap[D]? = some (.deferred (some []))) ∧ Aside0 (Below w.heap.size w wr) ∧ ∃ v : Value, wr.heap[w1.heap.size]? = some (.cells #[v] 22 (0, 0)) ∧ Aside0 (Kd.R (Kd.int .u8) 5 wr w.heap.size (fun _ => True) v (encC (l.take k)))) ∧ a = { tmps := #[.slice A l.length c, undef, .slice none 0 0, .int .i64 0, .pointer (some ⟨w1.heap.size, 0, none⟩), undef, u6, u7, u8, undef, undef, undef, .slice A l.length c, .bool true, .bool false, .slice A l.length c, .int .i64 (l.length : Int), .int .i64 (k : Int), u18, u19, u20, u21, u22, u23, u24, u25, u26, u27, u28, u29, undef, undef, undef, undef, undef, undef, undef, undef, undef, undef, undef, undef, undef, undef, undef, undef, undef, undef, u48, undef], defers := Ds.map markD }) l.length ?start ?round
  case start => exact ⟨0, [], _, _, _, _, _, _, _, _, _, _, _, _, _, _, _, _, ⟨Nat.zero_add _, List.nodup_nil, (fun D h => by cases h), HB0, _, HO0, HV0⟩, rfl⟩
  case round =>
    clear HB0 HO0 HV0
    rintro gk a wr ⟨k, Ds, u6, u7, u8, u18, u19, u20, u21, u22, u23, u24, u25, u26, u27, u28, u29, u48, ⟨hk, hnd, hD, HB, v, hO, HV⟩, rfl⟩ J K hJ hK
    dsimp only
    by_cases hlt : k < l.length
    · obtain ⟨ad, A0, c0, A1, c1, rfl, e0, e1, l0, g0, l1, g1⟩ := at_T60 HR.out (k : Int) (by omega) (by omega)
      rw [Int.toNat_natCast] at e0 e1
      have e0 := pw_cell_below HB.out e0
      have e1 := pw_cell_below HB.out e1
      have HX := Aside0.mk (HK.out _ (rd_memZ l k hlt))
      have HX60 := Aside0.mk (H60.out _ (rd_memZ l k hlt))
      have HCX := Aside0.mk (HP.out k hlt)
      obtain ⟨x, ex⟩ : ∃ x, rd_T60 l (k : Int) = x := ⟨_, rfl⟩
      have EX := Aside0.mk ex
      rw [ex] at e0 e1 HX g0 l0 g1 l1 HX60
      have G0 := Aside0.mk g0
      have L0 := Aside0.mk l0
      have G1 := Aside0.mk g1
      have L1 := Aside0.mk l1
      obtain ⟨a1, hA1, _⟩ := g1.2.2 (Nat.pos_of_ne_zero (by
        have h1 := HCX.out
        rw [okC, ex, canX] at h1
        simp only [Bool.and_eq_true, Bool.not_eq_true', decide_eq_false_iff_not] at h1
        exact h1.1.2.1))
      clear ex g0 l0 g1 l1
      subst hA1
      have HCL : Aside0 (canL x.f0 = true ∧ canS x.f1 = true ∧ ¬ x.f1.length = 0) := ⟨by
        have h1 := HCX.out
        rw [okC, EX.out, canX] at h1
        simp only [Bool.and_eq_true, Bool.not_eq_true', decide_eq_false_iff_not] at h1
        exact ⟨h1.1.1, h1.1.2.2, h1.1.2.1⟩⟩
      have HBW := Aside0.mk (below_alloc (Below.refl wr.heap.size wr) (.cells #[.slice A0 x.f0.length c0, .slice (some a1) x.f1.length c1] 60 (0, 0)))
      have HBK := Aside0.mk (blk_new wr (.cells #[.slice A0 x.f0.length c0, .slice (some a1) x.f1.length c1] 60 (0, 0)))
      have CE := Aside0.mk (fun W (hb : Below wr.heap.size wr W) => encLb.calls A0 c0 _ x.f0 W rfl (Kd.C_below G0.out (below_step HB.out hb)) L0.out HCL.out.1)
      go_wp2_with (first | (go_at_call 30; (with_reducible refine (CE.out _ HBW.out).mono ?_); rintro e w2 ⟨v5, rfl, hr5, hb⟩; obtain ⟨a5, c5, rfl⟩ := Kd.R_slice1 hr5 (by simp [encLb]); have HR5 := Aside0.mk hr5; have HB2 := Aside0.mk (below_step HBW.out hb); have HBK2 := Aside0.mk (blk_below HBK.out hb); have b1 := cell_alloc_old (.cells #[.slice (some a5) (encLb x.f0).length c5] 22) ((blk_cell HBK2.out 1).trans rfl); clear hb hr5) | (go_at_call 31; (with_reducible refine (chunkF.calls (some a1) _ c1 _).mono ?_); rintro e w3 ⟨rfl, rfl⟩))
      obtain ⟨W0, hW0⟩ : ∃ W0, (((w2.alloc (.cells #[.slice (some a5) (encLb x.f0).length c5] 22)).alloc (.cells #[.slice (some a1) x.f1.length c1] 30)).alloc (.cells #[.int .i64 20] 3)) = W0 := ⟨_, rfl⟩
      have hs0 : W0.heap.size = w2.heap.size + 3 := by rw [← hW0]; simp
      have H2W : Aside0 (Below w2.heap.size w2 W0) := ⟨by rw [← hW0]; exact below_alloc (below_alloc (below_alloc (Below.refl _ _) _) _) _⟩
      have HU : Aside0 (W0.heap[w2.heap.size]? = some (.cells #[.slice (some a5) (encLb x.f0).length c5] 22 (0, 0))) := ⟨by
        rw [← hW0]; exact ((Below.heap_alloc _ _ _ (by simp; omega)).trans (Below.heap_alloc _ _ _ (by simp))).trans (World.alloc_heap_new w2 _)⟩
      have HX1 : Aside0 (W0.cell? ⟨w2.heap.size + 1, 0, none⟩ = some (.slice (some a1) x.f1.length c1)) := ⟨by
        have h0 : W0.heap[w2.heap.size + 1]? = some (.cells #[.slice (some a1) x.f1.length c1] 30 (0, 0)) := by
          rw [← hW0]
          refine (Below.heap_alloc _ _ _ (by simp)).trans ?_
          have := World.alloc_heap_new (w2.alloc (.cells #[.slice (some a5) (encLb x.f0).length c5] 22)) (.cells #[.slice (some a1) x.f1.length c1] 30)
          rwa [World.size_alloc] at this
        exact (cell_of_row W0 _ 0 _ _ _ h0).trans rfl⟩
      have HX2 : Aside0 (W0.cell? ⟨w2.heap.size + 1 + 1, 0, none⟩ = some (.int .i64 20)) := ⟨by
        have h0 : W0.heap[w2.heap.size + 1 + 1]? = some (.cells #[.int .i64 20] 3 (0, 0)) := by
          rw [← hW0]
          have := World.alloc_heap_new ((w2.alloc (.cells #[.slice (some a5) (encLb x.f0).length c5] 22)).alloc (.cells #[.slice (some a1) x.f1.length c1] 30)) (.cells #[.int .i64 20] 3)
          rwa [World.size_alloc, World.size_alloc] at this
        exact (cell_of_row W0 _ 0 _ _ _ h0).trans rfl⟩
      rw [hW0]
      have HrW := Aside0.mk (below_step HB2.out H2W.out)
      have hsz : w1.heap.size < wr.heap.size := (Array.getElem?_eq_some_iff.1 hO).1
      have hszr : wr.heap.size ≤ w2.heap.size := HB2.out.size
      have hszw : w.heap.size ≤ w1.heap.size := HB1.out.size
      have hO0 : W0.heap[w1.heap.size]? = some (.cells #[v] 22 (0, 0)) := (HrW.out.block _ hsz).trans hO
      have HV0 := Aside0.mk (Kd.R_below HV.out HrW.out)
      have HR50 := Aside0.mk (Kd.R_bound (Kd.R_lower (Kd.R_below HR5.out H2W.out) (base' := wr.heap.size) (by simp)))
      have HBT := Aside0.mk (below_step HB.out HrW.out)
      have hD0 : ∀ D ∈ Ds, w1.heap.size < D ∧ D < W0.heap.size ∧ W0.heap[D]? = some (.deferred (some [])) := fun D h => by
        have h1 := hD D h
        have h2 := (Array.getElem?_eq_some_iff.1 h1.2).1
        exact ⟨h1.1, by have := HrW.out.size; omega, (HrW.out.block D h2).trans h1.2⟩
      have HEL : Aside0 ((encLb x.f0).length ≤ 600) := ⟨encLb_len HCL.out.1⟩
      have HPL : Aside0 ((encC (l.take k)).length ≤ 200000) := ⟨by have := HEC.out k (by omega); omega⟩
      have HOS : Aside0 (∀ s ∈ x.f1, okS s) := ⟨HX.out.2.2.2⟩
      have hn3 : (x.f1.length + 19) / 20 ≤ 24 := by have := HX60.out; omega
      have hTW := Aside0.mk (HT.out.below HBT.out)
      clear hW0 HBK HBK2 b1 e0 e1 G0 L0 HBW CE hO hD
      generalize hu : encLb x.f0 = u at *
      refine wpIn_wide.1 (wpIn_rangeFunc_ownF (F := Fence.wide) (n := 5) rfl (by decide) (gf := 62) (lb := #[.pointer (some ⟨w2.heap.size + 1, 0, none⟩), .pointer (some ⟨w2.heap.size + 1 + 1, 0, none⟩)]) rfl trivial (enters_of Tryd.func62 (by kernel_rfl) rfl)
        (chunkIt_stops 4 (by decide) (w2.heap.size + 1) (w2.heap.size + 1 + 1) a1 x.f1.length c1 (by have := HX60.out; omega) L1.out W0 (by omega) (by omega) HX1.out HX2.out) KeepB.trans (keepB_b (by omega) (by omega)) (Below.refl _ _) (fun _ => rfl)
        (fun pre W => (∃ vo, W.heap[w1.heap.size]? = some (.cells #[vo] 22 (0, 0)) ∧ Kd.R (Kd.int .u8) 5 W w.heap.size (fun _ => True) vo (encC (l.take k) ++ encYs u x.f1 (partsN pre))) ∧ But w1.heap.size W0.heap.size W0 W)
        (fun _ _ _ => False) ?own (fun _ _ _ _ _ hs _ _ => hs) ?first _ (fun lp y W K hK => by dsimp only [encPt]; gi_wp2; exact hK) ?body ?done ?stop)
      case own =>
        rintro s W W' row ⟨⟨vo, ho, hv⟩, hb⟩ hg hr
        refine ⟨⟨vo, ?_, R_turn hv hg (fun r e => (hr r e).2)⟩, hb.grown hg (Nat.le_refl _) (fun r e => (hr r e).1)⟩
        refine (hg.block _ (Array.getElem?_eq_some_iff.1 ho).1 (fun e => ?_)).trans ho
        have := (hr _ e.symm).1
        omega
      case first => exact ⟨⟨v, hO0, by have := HV0.out; simpa [encYs, partsN] using this⟩, But.refl _ _ _⟩
      case stop => exact fun _ _ _ _ _ _ h => h.elim
      case done =>
        rintro D ys W hDs hys ⟨⟨vo, ho, hv⟩, hbut⟩ hDn
        have HBn : Aside0 (Below w.heap.size w W) := ⟨HBT.out.trans (hbut.below (by omega) (by omega))⟩
        have HVn : Aside0 (Kd.R (Kd.int .u8) 5 W w.heap.size (fun _ => True) vo (encC (l.take (k + 1)))) := ⟨by
          rw [encC_step l k hlt, EX.out]
          have e : encYs u x.f1 (partsN ys) = encSer x := by rw [hys, encSer, hu]; rfl
          rwa [e] at hv⟩
        have HDn : Aside0 ((D :: Ds).Nodup ∧ ∀ D' ∈ D :: Ds, w1.heap.size < D' ∧ W.heap[D']? = some (.deferred (some []))) := ⟨by
          refine ⟨List.nodup_cons.2 ⟨fun h => by have := hD0 D h; omega, hnd⟩, fun D' h => ?_⟩
          rcases List.mem_cons.1 h with rfl | h
          · exact ⟨by omega, hDn⟩
          · exact ⟨(hD0 D' h).1, (hbut.block D' (hD0 D' h).2.1 (by have := (hD0 D' h).1; omega)).trans (hD0 D' h).2.2⟩⟩
        clear hbut hv hDn hys hD0
        go_wp2
        have hkl : Value.int .i64 ((k : Int) + 1) = .int .i64 ((k + 1 : Nat) : Int) := by congr 1
        rw [hkl]
        exact Handed.intro (gk - 1) (by omega) (hJ _ _ _ ⟨k + 1, D :: Ds, _, _, _, _, _, _, _, _, _, _, _, _, _, _, _, _, ⟨by omega, HDn.out.1, HDn.out.2, HBn, vo, ho, HVn⟩, rfl⟩)
      case body =>
        rintro lp pre ⟨j, hj⟩ W ⟨⟨vo, ho, hv⟩, hbut⟩ hlen
        dsimp only
        have hbw : Below w.heap.size w W := HBT.out.trans (hbut.below (by omega) (by omega))
        obtain ⟨q, hq⟩ : ∃ q, partS x.f1 j = q := ⟨_, rfl⟩
        obtain ⟨m, hm⟩ : ∃ m, plen x.f1.length j = m := ⟨_, rfl⟩
        have hql : q.length = m := by rw [← hq, partS_len, hm]
        have hm20 : 1 ≤ m ∧ m ≤ 20 ∧ j * 20 + m ≤ x.f1.length := by rw [← hm]; unfold plen; omega
        have HQO : Aside0 (∀ s ∈ q, okS s) := ⟨fun s hs => HOS.out s (partS_mem (hq ▸ hs))⟩
        have HQC : Aside0 (canS q = true) := ⟨hq ▸ canS_part HCL.out.2.1 j⟩
        have HQ : Aside0 (Kd.C k54 W (some (a1.add (j * 20 * 2))) q.length q) := ⟨by
          have h1 := Kd.C_mid (c := c1) (lo := j * 20) (hi := j * 20 + m) (Kd.C_below G1.out hbw) (by omega) hm20.2.2 L1.out
          rw [if_neg (by have := L1.out; omega)] at h1
          have e : (x.f1.take (j * 20 + m)).drop (j * 20) = q := by rw [← hq, ← hm]; rfl
          rw [e] at h1
          exact h1⟩
        have ENC := Aside0.mk (codec_Encode.calls_at (n := m) (some (a1.add (j * 20 * 2))) m q W (encL q) 0 hql HQ.out (Nat.le_refl _) HQO.out (by omega) (HT.out.below hbw) (by rw [encF, if_pos HQC.out]))
        have HQL : Aside0 ((encL q).length ≤ 410 ∧ 0 < (encL q).length) := ⟨encL_len (by omega) HQO.out HQC.out, by rw [encL, List.length_append, beL_length]; omega⟩
        rw [hm]
        refine wpIn_block (wpIn_seq ?_)
        gi_wp2_with (first | (refine ⟨trivial, ?_⟩; gi_at_call 32; (refine (CallsIn.inRound lp (callsIn_wide.2 ENC.out)).mono ?_); rintro e wa ⟨v1, rfl, hr1, hb1⟩; obtain ⟨a6, c6, rfl⟩ := Kd.R_slice1 hr1 HQL.out.2; have HRa := Aside0.mk hr1; have HBa := Aside0.mk hb1; clear hr1 hb1))
        obtain ⟨LV, hLV⟩ : ∃ LV, encC (l.take k) ++ encYs u x.f1 (partsN pre) = LV := ⟨_, rfl⟩
        rw [hLV] at hv
        obtain ⟨Av, cv, rfl⟩ := Kd.R_slice hv
        have HRa5 : Aside0 (Kd.R (Kd.int .u8) 5 wa wr.heap.size (fun _ => True) (.slice (some a5) u.length c5) u) := ⟨by
          have h1 := Kd.R_move HR50.out (w1 := W) (fun k hk => hbut.block k hk.2.2.1 (by have := hk.2.1; omega))
          exact Kd.R_mono (Kd.R_below h1 HBa.out) (fun _ _ => trivial)⟩
        have HVa := Aside0.mk (Kd.R_below hv HBa.out)
        have HOa : Aside0 (wa.heap[w1.heap.size]? = some (.cells #[.slice Av LV.length cv] 22 (0, 0))) := ⟨(HBa.out.block _ (Array.getElem?_eq_some_iff.1 ho).1).trans ho⟩
        have HUa : Aside0 (wa.heap[w2.heap.size]? = some (.cells #[.slice (some a5) u.length c5] 22 (0, 0))) := ⟨(HBa.out.block _ (by have := hbut.size; omega)).trans ((hbut.block _ (by omega) (by omega)).trans HU.out)⟩
        refine wpIn_region_wide0 lp _ (by kernel_rfl) (by kernel_rfl) (GHead.start (n := 12) (S := fun W' => Below wa.heap.size wa W') (by decide) ?_)
        have HcO : Aside0 (∀ W', Below wa.heap.size wa W' → W'.cell? ⟨w1.heap.size, 0, none⟩ = some (.slice Av LV.length cv)) := ⟨fun W' hb => pw_cell_below hb ((cell_of_row wa _ 0 _ _ _ HOa.out).trans rfl)⟩
        have HcU : Aside0 (∀ W', Below wa.heap.size wa W' → W'.cell? ⟨w2.heap.size, 0, none⟩ = some (.slice (some a5) u.length c5)) := ⟨fun W' hb => pw_cell_below hb ((cell_of_row wa _ 0 _ _ _ HUa.out).trans rfl)⟩
        have HS := Aside0.mk (below_drew (Below.refl wa.heap.size wa))
        refine GHead.take' (i := 0) (v := ?_) rfl rfl (by kernel_rfl) (fun _ _ _ h => by cases h.1) (Or.inl ⟨by rfl, ?_⟩) HS.out ?_
        rotate_left
        · (intro W' hW'; have c1 := HcO.out W' hW'; have c2 := HcU.out W' hW'; go_simp; try (with_reducible rfl))
        try simp only [List.setIfInBounds_toArray, List.set_cons_zero, List.set_cons_succ]
        refine GHead.take' (i := 1) (v := ?_) rfl rfl (by kernel_rfl) (fun _ _ _ h => by cases h.1) (Or.inl ⟨by rfl, ?_⟩) HS.out ?_
        rotate_left
        · (intro W' hW'; have c1 := HcO.out W' hW'; have c2 := HcU.out W' hW'; go_simp; try (with_reducible rfl))
        try simp only [List.setIfInBounds_toArray, List.set_cons_zero, List.set_cons_succ]
        refine GHead.take' (i := 2) (v := ?_) rfl rfl (by kernel_rfl) (fun _ _ _ h => by cases h.1) (Or.inl ⟨by rfl, ?_⟩) HS.out ?_
        rotate_left
        · (intro W' hW'; have c1 := HcO.out W' hW'; have c2 := HcU.out W' hW'; go_simp; try (with_reducible rfl))
        try simp only [List.setIfInBounds_toArray, List.set_cons_zero, List.set_cons_succ]
        refine GHead.take' (i := 3) (v := ?_) rfl rfl (by kernel_rfl) (fun _ _ _ h => by cases h.1) (Or.inl ⟨by rfl, ?_⟩) HS.out ?_
        rotate_left
        · (intro W' hW'; have c1 := HcO.out W' hW'; have c2 := HcU.out W' hW'; go_simp; try (with_reducible rfl))
        try simp only [List.setIfInBounds_toArray, List.set_cons_zero, List.set_cons_succ]
        refine GHead.take' (i := 4) (v := ?_) rfl rfl (by kernel_rfl) (fun _ _ _ h => by cases h.1) (Or.inl ⟨by rfl, ?_⟩) HS.out ?_
        rotate_left
        · (intro W' hW'; have c1 := HcO.out W' hW'; have c2 := HcU.out W' hW'; go_simp; try (with_reducible rfl))
        try simp only [List.setIfInBounds_toArray, List.set_cons_zero, List.set_cons_succ]
        refine GHead.take' (i := 5) (v := ?_) rfl rfl (by kernel_rfl) (fun _ _ _ h => by cases h.1) (Or.inl ⟨by rfl, ?_⟩) HS.out ?_
        rotate_left
        · (intro W' hW'; have c1 := HcO.out W' hW'; have c2 := HcU.out W' hW'; go_simp; try (with_reducible rfl))
        try simp only [List.setIfInBounds_toArray, List.set_cons_zero, List.set_cons_succ]
        refine GHead.take' (i := 6) (v := ?_) rfl rfl (by kernel_rfl) (fun _ _ _ h => by cases h.1) (Or.inl ⟨by rfl, ?_⟩) HS.out ?_
        rotate_left
        · (intro W' hW'; have c1 := HcO.out W' hW'; have c2 := HcU.out W' hW'; go_simp; try (with_reducible rfl))
        try simp only [List.setIfInBounds_toArray, List.set_cons_zero, List.set_cons_succ]
        refine GHead.take' (i := 8) (v := ?_) rfl rfl (by kernel_rfl) (fun _ _ _ h => by cases h.1) (Or.inl ⟨by rfl, ?_⟩) HS.out ?_
        rotate_left
        · (intro W' hW'; have c1 := HcO.out W' hW'; have c2 := HcU.out W' hW'; go_simp; try (with_reducible rfl))
        try simp only [List.setIfInBounds_toArray, List.set_cons_zero, List.set_cons_succ]
        refine GHead.take' (i := 9) (v := ?_) rfl rfl (by kernel_rfl) (fun _ _ _ h => by cases h.1) (Or.inl ⟨by rfl, ?_⟩) HS.out ?_
        rotate_left
        · (intro W' hW'; have c1 := HcO.out W' hW'; have c2 := HcU.out W' hW'; go_simp; try (with_reducible rfl))
        try simp only [List.setIfInBounds_toArray, List.set_cons_zero, List.set_cons_succ]
        have PUT : Aside0 (∀ W', Calls Tryd.prog 34 #[.int .u64 (IntKind.u64.wrap (IntKind.i64.wrap ((u.length : Int) + ((encL q).length : Int)))), .int .i64 4] W' fun e w' => ∃ v0_ : Value, e = .returned v0_ ∧ Kd.R (Kd.int .u8) 5 w' W'.heap.size (fun _ => True) v0_ (beL (u.length + (encL q).length) 4) ∧ Below W'.heap.size W' w') := ⟨fun W' => crc_Put.calls _ _ _ W' (by
          have h1 : IntKind.i64.wrap ((u.length : Int) + ((encL q).length : Int)) = ((u.length + (encL q).length : Nat) : Int) := by
            rw [IntKind.wrap_i64]
            have := HEL.out
            have := HQL.out
            omega
          have h2 := put_f (q := ((u.length + (encL q).length : Nat) : Int)) (by omega) (by have := HEL.out; have := HQL.out; omega) 4
          rw [h1]
          rwa [Int.toNat_natCast] at h2)⟩
        refine GHead.one (i := 7) rfl (by kernel_rfl) (by rfl) (fun KK hKK => ?_)
        go_simp
        refine (PUT.out _).mono ?_
        rintro e wb ⟨v3, rfl, hr3, hb3⟩
        obtain ⟨a3, c3, rfl⟩ := Kd.R_slice1 hr3 (by rw [beL_length]; decide)
        have HRb := Aside0.mk hr3
        have HBb := Aside0.mk (below_step HS.out hb3)
        refine hKK _ _ HBb.out ?_
        clear hKK hr3 hb3 HcO HcU
        refine GHead.one (i := 10) rfl (by kernel_rfl) (by rfl) (fun K1 hK1 => ?_)
        go_simp
        have HBc := Aside0.mk (below_alloc HBb.out (.cells #[.slice Av LV.length cv, .slice (some a3) (beL (u.length + (encL q).length) 4).length c3, .slice (some a5) u.length c5, .slice (some a6) (encL q).length c6] 22))
        have HNb := Aside0.mk (blk_new wb (.cells #[.slice Av LV.length cv, .slice (some a3) (beL (u.length + (encL q).length) 4).length c3, .slice (some a5) u.length c5, .slice (some a6) (encL q).length c6] 22))
        have HBcb := Aside0.mk (below_alloc (Below.refl wb.heap.size wb) (.cells #[.slice Av LV.length cv, .slice (some a3) (beL (u.length + (encL q).length) 4).length c3, .slice (some a5) u.length c5, .slice (some a6) (encL q).length c6] 22))
        refine hK1 _ _ HBc.out ?_
        clear hK1
        generalize (wb.alloc (.cells #[.slice Av LV.length cv, .slice (some a3) (beL (u.length + (encL q).length) 4).length c3, .slice (some a5) u.length c5, .slice (some a6) (encL q).length c6] 22)) = wc at *
        have hv1 := Kd.R_below HVa.out HBc.out
        have hr3 := Kd.R_below HRb.out HBcb.out
        have hr5 := Kd.R_below HRa5.out HBc.out
        have hr6 := Kd.R_below HRa.out HBc.out
        have HLVL : Aside0 (LV.length ≤ 250000) := ⟨by
          rw [← hLV, List.length_append]
          have h1 := HPL.out
          have h2 := encYs_len (l := x.f1) HEL.out HOS.out HCL.out.2.1 (partsN pre)
          rw [partsN_length] at h2
          omega⟩
        have CON := Aside0.mk (concatB.calls (some ⟨wb.heap.size, 0, none⟩) 4 4 [LV, beL (u.length + (encL q).length) 4, u, encL q] wc rfl
          (four_C wc wb.heap.size Av (some a3) (some a5) (some a6) cv c3 c5 c6 LV _ u _ _ _ HNb.out (Kd.R_reads' hv1).2.2 (Kd.R_reads' hv1).2.1 (Kd.R_reads' hr3).2.2 (Kd.R_reads' hr3).2.1 (Kd.R_reads' hr5).2.2 (Kd.R_reads' hr5).2.1 (Kd.R_reads' hr6).2.2 (Kd.R_reads' hr6).2.1) (by decide) (by
            simp only [List.flatten_cons, List.flatten_nil, List.length_append, List.length_nil, beL_length]
            have := HLVL.out
            have := HEL.out
            have := HQL.out
            omega))
        clear hv1 hr3 hr5 hr6
        refine GHead.one (i := 11) rfl (by kernel_rfl) (by rfl) (fun K2 hK2 => ?_)
        go_simp
        refine CON.out.mono ?_
        rintro e wd ⟨v4, rfl, hr4, hb4⟩
        obtain ⟨LN, hLN⟩ : ∃ LN, [LV, beL (u.length + (encL q).length) 4, u, encL q].flatten = LN := ⟨_, rfl⟩
        rw [hLN] at hr4
        have HLN : Aside0 (encC (l.take k) ++ encYs u x.f1 (partsN (pre ++ [⟨j, hj⟩])) = LN) := ⟨by
          rw [partsN_snoc, encYs_snoc, hq, ← List.append_assoc, hLV, ← hLN, encPart]
          simp only [List.flatten_cons, List.flatten_nil, List.append_nil]⟩
        clear hLN
        obtain ⟨A4, c4, rfl⟩ := Kd.R_slice hr4
        have HBd := Aside0.mk (below_step HBc.out hb4)
        have HRd := Aside0.mk hr4
        clear hr4 hb4
        refine hK2 _ _ HBd.out ?_
        clear hK2
        have HOd : Aside0 (wd.heap[w1.heap.size]? = some (.cells #[.slice Av LV.length cv] 22 (0, 0))) := ⟨(HBd.out.block _ (Array.getElem?_eq_some_iff.1 HOa.out).1).trans HOa.out⟩
        have co : wd.cell? ⟨w1.heap.size, 0, none⟩ = some (.slice Av LV.length cv) := (cell_of_row wd _ 0 _ _ _ HOd.out).trans rfl
        have fo : wd.frozen? ⟨w1.heap.size, 0, none⟩ = false := blk_frozen HOd.out 0
        refine GHead.last rfl (by kernel_rfl) (by rfl) (fun K3 hK3 => ?_)
        go_simp
        refine hK3 _ _ ⟨rfl, ?_⟩
        clear hK3 co fo
        have hsW : W.heap.size ≤ wa.heap.size := HBa.out.size
        have hsa : wa.heap.size ≤ wd.heap.size := HBd.out.size
        have HWd := Aside0.mk (below_step HBa.out HBd.out)
        have hO5 : (wd.setCell ⟨w1.heap.size, 0, none⟩ (.slice A4 LN.length c4)).heap[w1.heap.size]? = some (.cells #[.slice A4 LN.length c4] 22 (0, 0)) := blk_put HOd.out 0 _ rfl
        refine ⟨⟨by simp; omega, fun i o hi ho' => ?_⟩, ⟨?_, ?_⟩, ⟨.slice A4 LN.length c4, hO5, ?_⟩, ?_⟩
        · have h1 := (HWd.out.block _ (Array.getElem?_eq_some_iff.1 hi).1).trans hi
          refine (Below.heap_setCell wd ⟨w1.heap.size, 0, none⟩ _ i (fun e => ?_)).trans h1
          have e' : i = w1.heap.size := e
          subst e'
          rw [HOd.out] at h1
          injection h1 with h1
          subst h1
          cases ho'
        · exact (Below.heap_setCell wd ⟨w1.heap.size, 0, none⟩ _ _ (fun e => by have e' : w2.heap.size + 1 = w1.heap.size := e; omega)).trans (HWd.out.block _ (by have := hbut.size; omega))
        · exact (Below.heap_setCell wd ⟨w1.heap.size, 0, none⟩ _ _ (fun e => by have e' : w2.heap.size + 1 + 1 = w1.heap.size := e; omega)).trans (HWd.out.block _ (by have := hbut.size; omega))
        · rw [HLN.out]
          have h1 := Kd.R_far (Kd.R_bound HRd.out) (p := ⟨w1.heap.size, 0, none⟩) (fun i hi => (by have h1 := hi.2.1; have h2 := HBc.out.size; have h3 := hbut.size; show i ≠ w1.heap.size; omega)) (.slice A4 LN.length c4)
          exact Kd.R_mono (Kd.R_lower h1 (base' := w.heap.size) (by have := HBc.out.size; have := hbut.size; omega)) (fun _ _ => trivial)
        · exact (hbut.trans (But.of_below (HWd.out.mono hbut.size))).setCell 0 _
    · obtain rfl : k = l.length := by omega
      have hnk : ¬ ((l.length : Int) < (l.length : Int)) := by omega
      rw [List.take_length] at HV
      obtain ⟨Av, cv, rfl⟩ := Kd.R_slice HV.out
      have co := (cell_of_row wr w1.heap.size 0 _ _ _ hO).trans rfl
      go_wp2
      refine leaves_marks (fun W => Kd.R (Kd.int .u8) 5 W w.heap.size (fun _ => True) (.slice Av (encC l).length cv) (encC l) ∧ Below w.heap.size w W) (fun W hM => ?_) Ds wr hnd (fun D h => (hD D h).2) (fun D h W hM hd => ?_) ⟨HV.out, HB.out⟩
      · exact ⟨_, results_tmp2 rfl _ _ _, _, rfl, hM.1, hM.2⟩
      · exact ⟨R_turn hM.1 (grownBy_putObj' W D _) (fun r e => by cases e; exact ⟨_, hd, rfl⟩), hM.2.trans (belowK_b (w := w) (Nat.le_refl _) W D _ _ (by have := (hD D h).1; have := HB1.out.size; omega) hd rfl rfl)⟩
end Go.Proofs.YtbgmnmjokdfmlaaDoor.PA
namespace Go.Proofs.YtbgmnmjokdfmlaaDoor.PA
open Go.RowKit Go.Proofs.YtbgmnmjokdfmlaaDoor.G Go.Proofs.YtbgmnmjokdfmlaaDoorW.PrintWords Go.Proofs.YtbgmnmjokdfmlaaDoorW.PrintLast Go.Proofs.YtbgmnmjokdfmlaaDoorW.PrintMore
set_option maxHeartbeats 4000000 in
set_option maxRecDepth 100000 in
theorem encC.bad (A : Option Addr) (c n : Nat) (l : List S60) (w : World) (hn : l.length = n) (hr : Kd.C k60 w A n l) (hc : n ≤ c) (hok : okZ l) (hl : n ≤ 8) (h : canC l = false) :
    Calls Tryd.prog 14 #[.slice A n c] w fun e w' => e = .returned (.tuple #[.slice none 0 0, .int .i64 1]) ∧ Below w.heap.size w w' := by
  subst hn
  have HCAN : Aside0 (Calls Tryd.prog 17 #[.slice A l.length c] w fun e w' => e = .returned (.bool false) ∧ Below w.heap.size w w') := ⟨h ▸ canC.calls A c l.length l w rfl hr hc hok (by omega)⟩
  clear hr hok h
  go_enter Tryd.func14, Tryd.ntmps14
  go_wp2_with (first | (go_at_call 17; (with_reducible refine HCAN.out.mono ?_); rintro e w1 ⟨rfl, hb⟩; have HB1 := Aside0.mk hb; clear hb))
  refine bodyPost_ret (results_tmp2 rfl _ _ _) rfl ?_
  exact ⟨rfl, HB1.out⟩
noncomputable def encCF (l : List S60) : List Int × Int := if canC l = true then (encC l, 0) else ([], 1)
theorem encCF.calls (A : Option Addr) (c n : Nat) (l : List S60) (eb : List Int) (ee : Int) (w : World) (hn : l.length = n) (hr : Kd.C k60 w A n l) (hc : n ≤ c) (hok : okZ l) (hl : n ≤ 8) (h60 : ∀ x ∈ l, x.f1.length ≤ 480) (hT : TabZ w) (he : encCF l = (eb, ee)) :
    Calls Tryd.prog 14 #[.slice A n c] w fun e w' => ∃ v : Value, e = .returned (.tuple #[v, .int .i64 ee]) ∧ Kd.R (Kd.int .u8) 5 w' w.heap.size (fun _ => True) v eb ∧ Below w.heap.size w w' := by
  unfold encCF at he
  split at he
  · rename_i h
    cases he
    exact encC.calls A c n l w hn hr hc hok hl h60 hT h
  · rename_i h
    cases he
    refine (encC.bad A c n l w hn hr hc hok hl (by simpa using h)).mono ?_
    rintro e w' ⟨rfl, hb⟩
    exact ⟨_, rfl, Kd.R_nil _ _ _ _ _, hb⟩
end Go.Proofs.YtbgmnmjokdfmlaaDoor.PA
namespace Go.Proofs.YtbgmnmjokdfmlaaDoor.PA
open Go.RowKit Go.Proofs.YtbgmnmjokdfmlaaDoor.G Go.Proofs.YtbgmnmjokdfmlaaDoorW.PrintWords Go.Proofs.YtbgmnmjokdfmlaaDoorW.PrintLast Go.Proofs.YtbgmnmjokdfmlaaDoorW.PrintMore
def segN (b : List Int) : Nat := beV 0 (b.take 4)
def seg (b : List Int) : List Int := (b.take (4 + segN b)).drop 4
noncomputable def chunkB (b : List Int) : List S65 × List S54 × Int :=
  if b.length < 4 then ([], [], 0) else
  if b.length - 4 < segN b then ([], [], 0) else
  if (decLb (seg b)).2.2 ≠ 0 then ([], [], 0) else
  if (decF (decLb (seg b)).2.1).2 ≠ 0 ∨ (decF (decLb (seg b)).2.1).1.length = 0 ∨ 20 < (decF (decLb (seg b)).2.1).1.length then ([], [], 0) else
  ((decLb (seg b)).1, (decF (decLb (seg b)).2.1).1, ((4 + segN b : Nat) : Int))
theorem pieceD_mem {b r : List Int} {s : ByteArray} (h : pieceD b = some (s, r)) : ∀ x ∈ r, x ∈ b := by
  cases b with
  | nil => cases h
  | cons a b =>
    simp only [pieceD] at h
    split at h
    · cases h
    · simp only [Option.some.injEq, Prod.mk.injEq] at h
      intro x hx
      rw [← h.2] at hx
      exact List.mem_cons_of_mem _ (List.mem_of_mem_drop hx)
theorem decLN_in {b : List Int} : ∀ {k : Nat} {l : List S65} {r : List Int}, decLN b k = some (l, r) → ∀ x ∈ r, x ∈ b
  | 0, l, r, h => by
    simp only [decLN, Option.some.injEq, Prod.mk.injEq] at h
    obtain ⟨rfl, rfl⟩ := h
    exact fun x hx => hx
  | k + 1, l, r, h => by
    simp only [decLN, Option.bind_eq_some_iff] at h
    obtain ⟨⟨l1, r1⟩, h1, ⟨s, r2⟩, h2, ⟨t, r3⟩, h3, h4⟩ := h
    simp only [Option.some.injEq, Prod.mk.injEq] at h4
    obtain ⟨rfl, rfl⟩ := h4
    exact fun x hx => decLN_in h1 x (pieceD_mem h2 x (pieceD_mem h3 x hx))
theorem decLb_rest (b : List Int) : (∀ x ∈ (decLb b).2.1, x ∈ b) ∧ (decLb b).2.1.length ≤ b.length := by
  cases b with
  | nil => simp [decLb]
  | cons a r =>
    simp only [decLb]
    split
    · simp
    · rename_i p hp
      obtain ⟨l, q⟩ := p
      split
      · exact ⟨fun x hx => List.mem_cons_of_mem _ (decLN_in hp x hx), by have := (decLN_len hp).2; simp; omega⟩
      · simp
theorem okB_sub {a b : List Int} (h : okB b = true) (hs : ∀ x ∈ a, x ∈ b) : okB a = true := okB_iff.2 fun x hx => okB_iff.1 h x (hs x hx)
def ChPost (w : World) (b : List Int) (e : Ending) (w' : World) : Prop := ∃ v1 v2 : Value, e = .returned (.tuple #[v1, v2, .int .i64 (chunkB b).2.2]) ∧ Kd.R k65 65 w' w.heap.size (fun _ => True) v1 (chunkB b).1 ∧ Kd.R k54 54 w' w.heap.size (fun _ => True) v2 (chunkB b).2.1 ∧ Below w.heap.size w w'
theorem ChPost.bad {w w' : World} {b : List Int} (h : chunkB b = ([], [], 0)) (hb : Below w.heap.size w w') : ChPost w b (.returned (.tuple #[.slice none 0 0, .slice none 0 0, .int .i64 0])) w' := by
  refine ⟨_, _, by rw [h], ?_, ?_, hb⟩
  · rw [h]; exact Kd.R_nil _ _ _ _ _
  · rw [h]; exact Kd.R_nil _ _ _ _ _
theorem segN_lt {b : List Int} (h : okB b = true) : segN b < 4294967296 := by
  have := beV_take_lt h 4
  exact this
set_option maxHeartbeats 8000000 in
set_option maxRecDepth 100000 in
theorem chunkB.calls (A : Option Addr) (c n : Nat) (b : List Int) (w : World) (hn : b.length = n) (hr : Kd.C (Kd.int .u8) w A n b) (hc : n ≤ c) (hok : okB b = true) (hlen : n ≤ 1000000) (hseg : n ≤ 2504 ∨ segN b ≤ 2500) (hT : TabZ w) :
    Calls Tryd.prog 29 #[.slice A n c] w (ChPost w b) := by
  subst hn
  by_cases h4 : b.length < 4
  · have HE : Aside0 (chunkB b = ([], [], 0)) := ⟨by rw [chunkB, if_pos h4]⟩
    have h4i : ((b.length : Int) < 4) := by omega
    clear hr hok hseg h4
    go_enter Tryd.func29, Tryd.ntmps29
    go_wp2
    refine bodyPost_ret (results_tmp3 rfl _ _ _) rfl ?_
    exact ChPost.bad HE.out (Below.refl _ _)
  · have h4i : ¬ ((b.length : Int) < 4) := by omega
    have hs32 := segN_lt hok
    have h4l : (b.take 4).length = 4 := by rw [List.length_take]; omega
    have HR := Aside0.mk hr
    have HOK := Aside0.mk hok
    have HT := Aside0.mk hT
    have GET : Aside0 (Calls Tryd.prog 59 #[.slice A 4 c] w fun e w' => e = .returned (.tuple #[.int .u64 ((segN b : Nat) : Int), .bool true]) ∧ Below w.heap.size w w') := ⟨by
      have h1 := crc_Get.calls A c (b.take 4) ((segN b : Nat) : Int) true w (Kd.C_take hr (by omega)) (by omega) (by rw [crc_Get.f, if_pos (okB_sub hok (fun x hx => List.mem_of_mem_take hx)), if_pos (by omega)]; rfl)
      rw [h4l] at h1
      exact h1.mono fun e w' ⟨he, hd⟩ => ⟨he, hd.below⟩⟩
    by_cases hlong : b.length - 4 < segN b
    · have HE : Aside0 (chunkB b = ([], [], 0)) := ⟨by rw [chunkB, if_neg h4, if_pos hlong]⟩
      have hli : ((b.length : Int) - 4 < ((segN b : Nat) : Int)) := by omega
      generalize segN b = N at *
      clear hr hok hseg hT h4 hlong
      go_enter Tryd.func29, Tryd.ntmps29
      go_wp2_with (first | (go_at_call 59; (with_reducible refine GET.out.mono ?_); rintro e w1 ⟨rfl, hb⟩; have HB1 := Aside0.mk hb; clear hb))
      refine bodyPost_ret (results_tmp3 rfl _ _ _) rfl ?_
      exact ChPost.bad HE.out HB1.out
    · have hli : ¬ ((b.length : Int) - 4 < ((segN b : Nat) : Int)) := by omega
      obtain ⟨A2, c2, r, hr2, HC2, hc2, hmid'⟩ := midB A c b 4 (4 + segN b) (by omega) (by omega) hc
      have hmid := hmid' 4 (4 + ((segN b : Nat) : Int)) rfl (by omega)
      have HSG : Aside0 (seg b = r) := ⟨hr2.out.symm⟩
      have hrl : r.length ≤ 2500 := by rw [hr2.out, List.length_drop, List.length_take]; omega
      have HRK : Aside0 (okB r = true) := ⟨okB_sub hok (fun x hx => by rw [hr2.out] at hx; exact List.mem_of_mem_take (List.mem_of_mem_drop hx))⟩
      have DL : Aside0 (∀ W, Below w.heap.size w W → Calls Tryd.prog 60 #[.slice A2 r.length c2] W (DecPost W r)) := ⟨fun W hb => decLb.calls A2 c2 r.length r W rfl (HC2.out W (Kd.C_below HR.out hb)) hc2 HRK.out (by omega)⟩
      obtain ⟨rl, rr, re, hd⟩ : ∃ rl rr re, decLb r = (rl, rr, re) := ⟨_, _, _, rfl⟩
      have HD := Aside0.mk hd
      have HRR : Aside0 (okB rr = true ∧ rr.length ≤ 2500) := ⟨by
        have h1 := decLb_rest r
        rw [hd] at h1
        exact ⟨okB_sub HRK.out h1.1, by have := h1.2; simp only at this; omega⟩⟩
      have HN4 : Aside0 (segN b < 4294967296) := ⟨hs32⟩
      have HCB : Aside0 (chunkB b = if re ≠ 0 then ([], [], 0) else if (decF rr).2 ≠ 0 ∨ (decF rr).1.length = 0 ∨ 20 < (decF rr).1.length then ([], [], 0) else (rl, (decF rr).1, ((4 + segN b : Nat) : Int))) := ⟨by rw [chunkB, if_neg h4, if_neg hlong, HSG.out, hd]⟩
      clear hr2 hmid' hok hseg hT h4 hlong hr hd
      generalize segN b = N at *
      by_cases hre : re = 0
      · subst hre
        obtain ⟨sl, se, hs⟩ : ∃ sl se, decF rr = (sl, se) := ⟨_, _, rfl⟩
        have HDE : Aside0 (∀ A' c' W, Kd.C (Kd.int .u8) W A' rr.length rr → rr.length ≤ c' → Below w.heap.size w W → Calls Tryd.prog 61 #[.slice A' rr.length c'] W fun e w' => ∃ v : Value, e = .returned (.tuple #[v, .int .i64 se]) ∧ Kd.R k54 54 w' W.heap.size (fun _ => True) v sl ∧ Below W.heap.size W w') := ⟨fun A' c' W h1 h2 hb => codec_Decode.calls_at A' c' rr W sl se rfl h1 h2 HRR.out.1 HRR.out.2 (HT.out.below hb) hs⟩
        rw [hs] at HCB
        simp only [ne_eq, not_true_eq_false, if_false] at HCB
        clear hs
        by_cases hs0 : se = 0
        · subst hs0
          have e0 : ((0 : Int) != 0) = false := by decide
          by_cases hl0 : sl.length = 0
          · have HE : Aside0 (chunkB b = ([], [], 0)) := ⟨by rw [HCB.out, if_pos (.inr (.inl hl0))]⟩
            have hl0i : ((sl.length : Int) == 0) = true := beq_iff_eq.2 (by omega)
            clear HCB hl0
            go_enter Tryd.func29, Tryd.ntmps29
            go_wp2_with (first | (go_at_call 59; (with_reducible refine GET.out.mono ?_); rintro e w1 ⟨rfl, hb⟩; have HB1 := Aside0.mk hb; clear hb) | (go_at_call 60; (with_reducible refine (DL.out _ HB1.out).mono ?_); rintro e w2 ⟨v1, v2, rfl, h1, h2, hb⟩; rw [HD.out] at h1 h2 ⊢; dsimp only at h1 h2 ⊢; obtain ⟨A8, c8, rfl⟩ := Kd.R_slice h2; have HV1 := Aside0.mk h1; have HV2 := Aside0.mk h2; have HB2 := Aside0.mk (below_step HB1.out hb); clear hb h1 h2) | (go_at_call 61; (with_reducible refine (HDE.out A8 c8 _ (Kd.R_reads' HV2.out).2.2 (Kd.R_reads' HV2.out).2.1 HB2.out).mono ?_); rintro e w3 ⟨v3, rfl, h3, hb⟩; obtain ⟨A9, c9, rfl⟩ := Kd.R_slice h3; have HV3 := Aside0.mk h3; have HV13 := Aside0.mk (Kd.R_below HV1.out hb); have HB3 := Aside0.mk (below_step HB2.out hb); clear hb h3))
            refine bodyPost_ret (results_tmp3 rfl _ _ _) rfl ?_
            exact ChPost.bad HE.out HB3.out
          · have hl0i : ((sl.length : Int) == 0) = false := beq_eq_false_iff_ne.2 (by omega)
            by_cases hl2 : 20 < sl.length
            · have HE : Aside0 (chunkB b = ([], [], 0)) := ⟨by rw [HCB.out, if_pos (.inr (.inr hl2))]⟩
              have hl2i : (20 : Int) < (sl.length : Int) := by omega
              clear HCB hl0 hl2
              go_enter Tryd.func29, Tryd.ntmps29
              go_wp2_with (first | (go_at_call 59; (with_reducible refine GET.out.mono ?_); rintro e w1 ⟨rfl, hb⟩; have HB1 := Aside0.mk hb; clear hb) | (go_at_call 60; (with_reducible refine (DL.out _ HB1.out).mono ?_); rintro e w2 ⟨v1, v2, rfl, h1, h2, hb⟩; rw [HD.out] at h1 h2 ⊢; dsimp only at h1 h2 ⊢; obtain ⟨A8, c8, rfl⟩ := Kd.R_slice h2; have HV1 := Aside0.mk h1; have HV2 := Aside0.mk h2; have HB2 := Aside0.mk (below_step HB1.out hb); clear hb h1 h2) | (go_at_call 61; (with_reducible refine (HDE.out A8 c8 _ (Kd.R_reads' HV2.out).2.2 (Kd.R_reads' HV2.out).2.1 HB2.out).mono ?_); rintro e w3 ⟨v3, rfl, h3, hb⟩; obtain ⟨A9, c9, rfl⟩ := Kd.R_slice h3; have HV3 := Aside0.mk h3; have HV13 := Aside0.mk (Kd.R_below HV1.out hb); have HB3 := Aside0.mk (below_step HB2.out hb); clear hb h3))
              refine bodyPost_ret (results_tmp3 rfl _ _ _) rfl ?_
              exact ChPost.bad HE.out HB3.out
            · have HE : Aside0 (chunkB b = (rl, sl, ((4 + N : Nat) : Int))) := ⟨by rw [HCB.out, if_neg (by omega)]⟩
              have hl2i : ¬ (20 : Int) < (sl.length : Int) := by omega
              clear HCB hl0 hl2
              go_enter Tryd.func29, Tryd.ntmps29
              go_wp2_with (first | (go_at_call 59; (with_reducible refine GET.out.mono ?_); rintro e w1 ⟨rfl, hb⟩; have HB1 := Aside0.mk hb; clear hb) | (go_at_call 60; (with_reducible refine (DL.out _ HB1.out).mono ?_); rintro e w2 ⟨v1, v2, rfl, h1, h2, hb⟩; rw [HD.out] at h1 h2 ⊢; dsimp only at h1 h2 ⊢; obtain ⟨A8, c8, rfl⟩ := Kd.R_slice h2; have HV1 := Aside0.mk h1; have HV2 := Aside0.mk h2; have HB2 := Aside0.mk (below_step HB1.out hb); clear hb h1 h2) | (go_at_call 61; (with_reducible refine (HDE.out A8 c8 _ (Kd.R_reads' HV2.out).2.2 (Kd.R_reads' HV2.out).2.1 HB2.out).mono ?_); rintro e w3 ⟨v3, rfl, h3, hb⟩; obtain ⟨A9, c9, rfl⟩ := Kd.R_slice h3; have HV3 := Aside0.mk h3; have HV13 := Aside0.mk (Kd.R_below HV1.out hb); have HB3 := Aside0.mk (below_step HB2.out hb); clear hb h3))
              refine bodyPost_ret (results_tmp3 rfl _ _ _) rfl ?_
              refine ⟨_, _, by rw [HE.out]; dsimp only; congr 4 <;> omega, ?_, ?_, HB3.out⟩
              · rw [HE.out]
                exact Kd.R_lower HV13.out (by have := HB1.out.size; omega)
              · rw [HE.out]
                exact Kd.R_lower HV3.out (by have := HB2.out.size; omega)
        · have HE : Aside0 (chunkB b = ([], [], 0)) := ⟨by rw [HCB.out, if_pos (.inl hs0)]⟩
          have hs0i : (se == 0) = false := beq_eq_false_iff_ne.2 hs0
          clear HCB
          go_enter Tryd.func29, Tryd.ntmps29
          go_wp2_with (first | (go_at_call 59; (with_reducible refine GET.out.mono ?_); rintro e w1 ⟨rfl, hb⟩; have HB1 := Aside0.mk hb; clear hb) | (go_at_call 60; (with_reducible refine (DL.out _ HB1.out).mono ?_); rintro e w2 ⟨v1, v2, rfl, h1, h2, hb⟩; rw [HD.out] at h1 h2 ⊢; dsimp only at h1 h2 ⊢; obtain ⟨A8, c8, rfl⟩ := Kd.R_slice h2; have HV1 := Aside0.mk h1; have HV2 := Aside0.mk h2; have HB2 := Aside0.mk (below_step HB1.out hb); clear hb h1 h2) | (go_at_call 61; (with_reducible refine (HDE.out A8 c8 _ (Kd.R_reads' HV2.out).2.2 (Kd.R_reads' HV2.out).2.1 HB2.out).mono ?_); rintro e w3 ⟨v3, rfl, h3, hb⟩; obtain ⟨A9, c9, rfl⟩ := Kd.R_slice h3; have HV3 := Aside0.mk h3; have HV13 := Aside0.mk (Kd.R_below HV1.out hb); have HB3 := Aside0.mk (below_step HB2.out hb); clear hb h3))
          refine bodyPost_ret (results_tmp3 rfl _ _ _) rfl ?_
          exact ChPost.bad HE.out HB3.out
      · have HE : Aside0 (chunkB b = ([], [], 0)) := ⟨by rw [HCB.out, if_pos hre]⟩
        have hrei : (re == 0) = false := beq_eq_false_iff_ne.2 hre
        clear HCB hre
        go_enter Tryd.func29, Tryd.ntmps29
        go_wp2_with (first | (go_at_call 59; (with_reducible refine GET.out.mono ?_); rintro e w1 ⟨rfl, hb⟩; have HB1 := Aside0.mk hb; clear hb) | (go_at_call 60; (with_reducible refine (DL.out _ HB1.out).mono ?_); rintro e w2 ⟨v1, v2, rfl, h1, h2, hb⟩; rw [HD.out] at h1 h2 ⊢; dsimp only at h1 h2 ⊢; have HV1 := Aside0.mk h1; have HV2 := Aside0.mk h2; have HB2 := Aside0.mk (below_step HB1.out hb); clear hb h1 h2))
        refine bodyPost_ret (results_tmp3 rfl _ _ _) rfl ?_
        exact ChPost.bad HE.out HB2.out
end Go.Proofs.YtbgmnmjokdfmlaaDoor.PA
namespace Go.Proofs.YtbgmnmjokdfmlaaDoor.PA
open Go.RowKit Go.Proofs.YtbgmnmjokdfmlaaDoor.G Go.Proofs.YtbgmnmjokdfmlaaDoorW.PrintWords Go.Proofs.YtbgmnmjokdfmlaaDoorW.PrintLast Go.Proofs.YtbgmnmjokdfmlaaDoorW.PrintMore
theorem strOfNums_bytes (s : ByteArray) : strOfNums (bytesOf s) = s := by
  apply ByteArray.ext
  apply Array.ext'
  simp [strOfNums, bytesOf, Function.comp_def]
theorem pieceD_enc (s : ByteArray) (y : List Int) : pieceD (encT s ++ y) = some (s, y) := by
  have hl : (bytesOf s).length = s.size := bytesOf_length s
  simp only [encT, List.cons_append, pieceD]
  rw [Int.toNat_natCast, if_neg (by rw [List.length_append, hl]; omega), ← hl, List.take_left', List.drop_left', strOfNums_bytes]
  · rfl
  · rfl
theorem decLN_enc (l : List S65) (r : List Int) : ∀ k, k ≤ l.length → decLN (l.flatMap encX ++ r) k = some (l.take k, (l.drop k).flatMap encX ++ r)
  | 0, _ => by simp [decLN]
  | k + 1, h => by
    rw [decLN, decLN_enc l r k (by omega), List.drop_eq_getElem_cons (by omega : k < l.length), List.take_succ_eq_append_getElem (by omega : k < l.length)]
    simp only [Option.bind_some, List.flatMap_cons, encX, List.append_assoc]
    rw [pieceD_enc]
    simp only [Option.bind_some]
    rw [pieceD_enc]
    rfl
theorem decLb_enc (l : List S65) (r : List Int) (h : canL l = true) : decLb (encLb l ++ r) = (l, r, 0) := by
  have h1 := decLN_enc l r l.length (Nat.le_refl _)
  rw [List.take_length, List.drop_length] at h1
  simp only [List.flatMap_nil, List.nil_append] at h1
  simp only [encLb, List.cons_append, decLb, Int.toNat_natCast]
  rw [h1]
  simp only [h, if_true]
theorem segN_enc (u e r : List Int) (h : u.length + e.length < 4294967296) : segN (beL (u.length + e.length) 4 ++ (u ++ e) ++ r) = u.length + e.length := by
  have h4 : (beL (u.length + e.length) 4).length = 4 := beL_length _ _
  rw [segN, List.append_assoc, List.take_append_of_le_length (by omega), List.take_of_length_le (by omega), beV_beL, Nat.zero_mul, Nat.zero_add]
  exact Nat.mod_eq_of_lt h
theorem seg_enc (u e r : List Int) (h : u.length + e.length < 4294967296) : seg (beL (u.length + e.length) 4 ++ (u ++ e) ++ r) = u ++ e := by
  have h4 : (beL (u.length + e.length) 4).length = 4 := beL_length _ _
  rw [seg, segN_enc u e r h, List.take_append_of_le_length (by simp only [List.length_append]; omega), List.take_of_length_le (by simp only [List.length_append]; omega), List.drop_left' h4]
theorem chunkB_part (l : List S65) (q : List S54) (r : List Int) (hl : canL l = true) (hq : canS q = true) (hok : ∀ x ∈ q, okS x) (h0 : 1 ≤ q.length) (h20 : q.length ≤ 20) :
    chunkB (encPart (encLb l) q ++ r) = (l, q, (((encPart (encLb l) q).length : Nat) : Int)) := by
  have hu := encLb_len hl
  have he := encL_len h20 hok hq
  have h4 : (beL ((encLb l).length + (encL q).length) 4).length = 4 := beL_length _ _
  have hd := (dec_enc q hok (by omega) hq).2.1
  rw [encPart, chunkB, if_neg (by simp only [List.length_append]; omega), segN_enc _ _ _ (by omega), if_neg (by simp only [List.length_append]; omega), seg_enc _ _ _ (by omega), decLb_enc l (encL q) hl]
  simp only [ne_eq, not_true_eq_false, if_false, hd]
  split
  · rename_i hx
    simp only [not_true_eq_false, false_or] at hx
    omega
  · simp only [List.length_append, h4]
theorem encLb_okB {l : List S65} (h : canL l = true) : okB (encLb l) = true := by
  have hp := canL_parts h
  have hb : ∀ s : ByteArray, ∀ x ∈ bytesOf s, 0 ≤ x ∧ x < 256 := fun s x hx => by
    simp only [bytesOf, List.mem_map] at hx
    obtain ⟨c, _, rfl⟩ := hx
    exact ⟨by omega, by have := c.toNat_lt; omega⟩
  have ht : ∀ s : ByteArray, s.size < 256 → ∀ x ∈ encT s, 0 ≤ x ∧ x < 256 := fun s hs x hx => by
    rcases List.mem_cons.1 hx with rfl | hx
    · omega
    · exact hb s x hx
  refine okB_iff.2 fun x hx => ?_
  rcases List.mem_cons.1 hx with rfl | hx
  · have := hp.2.1
    omega
  · obtain ⟨y, hy, hx⟩ := List.mem_flatMap.1 hx
    obtain ⟨k, hk, rfl⟩ := List.mem_iff_getElem.1 hy
    have hs := okAt_sizes (hp.2.2 k hk)
    have e : rd_T65 l (k : Int) = l[k] := by simp [rd_T65, List.getD_eq_getElem?_getD, List.getElem?_eq_getElem hk]
    rw [e] at hs
    rcases List.mem_append.1 hx with hx | hx
    · exact ht _ (by omega) x hx
    · exact ht _ (by omega) x hx
theorem beL_okB (N i : Nat) : okB (beL N i) = true := okB_iff.2 fun x hx => beL_byte N i x hx
theorem okB_app {a b : List Int} (ha : okB a = true) (hb : okB b = true) : okB (a ++ b) = true := okB_iff.2 fun x hx => (List.mem_append.1 hx).elim (okB_iff.1 ha x) (okB_iff.1 hb x)
theorem encPart_okB {l : List S65} {q : List S54} (hl : canL l = true) (hq : canS q = true) (hok : ∀ x ∈ q, okS x) (h20 : q.length ≤ 20) : okB (encPart (encLb l) q) = true :=
  okB_app (beL_okB _ _) (okB_app (encLb_okB hl) (encL_ok q (by omega) hok hq))
end Go.Proofs.YtbgmnmjokdfmlaaDoor.PA
namespace Go.Proofs.YtbgmnmjokdfmlaaDoor.PA
open Go.RowKit Go.Proofs.YtbgmnmjokdfmlaaDoor.G Go.Proofs.YtbgmnmjokdfmlaaDoorW.PrintWords Go.Proofs.YtbgmnmjokdfmlaaDoorW.PrintLast Go.Proofs.YtbgmnmjokdfmlaaDoorW.PrintMore
structure SE where
  f0 : List S65
  f1 : Int
  f2 : Int
  f3 : Int
  f4 : Int
def zE : SE := ⟨[], 0, 0, 0, 0⟩
def kE : Kd SE := Kd.iso (Kd.pair (Kd.slice 65 k65) (Kd.pair (Kd.int .i64) (Kd.pair (Kd.int .i64) (Kd.pair (Kd.int .i64) (Kd.int .i64))))) (fun x : SE => (x.f0, x.f1, x.f2, x.f3, x.f4))
theorem kE_open {w : World} {x : SE} {cs : List Value} (h : kE.K w x cs) : ∃ A0 c0, cs = [.slice A0 x.f0.length c0, .int .i64 x.f1, .int .i64 x.f2, .int .i64 x.f3, .int .i64 x.f4] ∧ x.f0.length ≤ c0 ∧ k65.C w A0 x.f0.length x.f0 := by
  obtain ⟨_, _, rfl, ⟨A0, c0, rfl, l0, g0⟩, ⟨_, _, rfl, rfl, ⟨_, _, rfl, rfl, ⟨_, _, rfl, rfl, rfl⟩⟩⟩⟩ := h
  exact ⟨A0, c0, rfl, l0, g0⟩
def rd_E (xs : List SE) (i : Int) : SE := xs.getD i.toNat zE
theorem at_E {w : World} {A : Option Addr} {n : Nat} {xs : List SE} (h : Kd.C kE w A n xs) (i : Int) (h0 : 0 ≤ i) (h1 : i < n) : ∃ ad A0 c0, A = some ad ∧ (∀ j u, [Value.slice A0 (rd_E xs i).f0.length c0, .int .i64 (rd_E xs i).f1, .int .i64 (rd_E xs i).f2, .int .i64 (rd_E xs i).f3, .int .i64 (rd_E xs i).f4][j]? = some u → w.cell? (ad.add (i.toNat * 5 + j)) = some u) ∧ (rd_E xs i).f0.length ≤ c0 ∧ k65.C w A0 (rd_E xs i).f0.length (rd_E xs i).f0 := by
  obtain ⟨ad, c, e, _, hK, hc0⟩ := Kd.C_get h zE i h0 h1
  obtain ⟨A0, c0, rfl, l0, g0⟩ := kE_open hK
  exact ⟨ad, A0, c0, e, hc0, l0, g0⟩
end Go.Proofs.YtbgmnmjokdfmlaaDoor.PA
namespace Go.Proofs.YtbgmnmjokdfmlaaDoor.PA
open Go.RowKit Go.Proofs.YtbgmnmjokdfmlaaDoor.G Go.Proofs.YtbgmnmjokdfmlaaDoorW.PrintWords Go.Proofs.YtbgmnmjokdfmlaaDoorW.PrintLast Go.Proofs.YtbgmnmjokdfmlaaDoorW.PrintMore
set_option maxHeartbeats 4000000 in
set_option maxRecDepth 100000 in
theorem equalL.calls (A0 : Option Addr) (c0 : Nat) (A1 : Option Addr) (c1 n : Nat) (l : List S65) (w : World) (hn : l.length = n) (hr0 : Kd.C k65 w A0 n l) (hr1 : Kd.C k65 w A1 n l) (hl : n ≤ 1000000) :
    Calls Tryd.prog 46 #[.slice A0 n c0, .slice A1 n c1] w fun e w' => e = .returned (.bool true) ∧ Below w.heap.size w w' := by
  subst hn
  have HR0 := Aside0.mk hr0
  have HR1 := Aside0.mk hr1
  clear hr0 hr1
  have hnn : ((l.length : Int) != (l.length : Int)) = false := by simp
  go_enter Tryd.func46, Tryd.ntmps46
  go_wp2
  go_loopw [13] (fun i wr => ∃ k : Nat, k ≤ l.length ∧ i = .int .i64 k ∧ Aside0 (Below w.heap.size w wr)) (fun i _ => l.length - (intOf i).toNat)
  case atStart => exact ⟨0, Nat.zero_le _, rfl, ⟨Below.refl _ _⟩⟩
  case round =>
    obtain ⟨k, hk, rfl, HB⟩ := hrel
    by_cases hlt : k < l.length
    · obtain ⟨ad, rfl, e0, e1⟩ := at_T65 (Kd.C_below HR0.out HB.out) (k : Int) (by omega) (by omega)
      obtain ⟨ae, rfl, g0, g1⟩ := at_T65 (Kd.C_below HR1.out HB.out) (k : Int) (by omega) (by omega)
      rw [Int.toNat_natCast] at e0 e1 g0 g1
      generalize rd_T65 l (k : Int) = x at e0 e1 g0 g1
      go_wp2
      go_region
      go_wp2
      go_roundw
      case rel => exact ⟨k + 1, by omega, by go_num, ⟨below_drew HB.out⟩⟩
      case measure => simp [intOf]; omega
    · obtain rfl : k = l.length := by omega
      go_wp2
      go_ret
      exact ⟨rfl, HB.out⟩
set_option maxHeartbeats 4000000 in
set_option maxRecDepth 100000 in
theorem entEq.calls (A0 : Option Addr) (c0 : Nat) (A1 : Option Addr) (c1 : Nat) (x : SE) (w : World) (hr0 : Kd.C k65 w A0 x.f0.length x.f0) (hr1 : Kd.C k65 w A1 x.f0.length x.f0) (hl : x.f0.length ≤ 1000000) :
    Calls Tryd.prog 45 #[.agg #[.slice A0 x.f0.length c0, .int .i64 x.f1, .int .i64 x.f2, .int .i64 x.f3, .int .i64 x.f4], .agg #[.slice A1 x.f0.length c1, .int .i64 x.f1, .int .i64 x.f2, .int .i64 x.f3, .int .i64 x.f4]] w fun e w' => e = .returned (.bool true) ∧ Below w.heap.size w w' := by
  obtain ⟨o0, ho0⟩ : ∃ o0 : Obj, Obj.cells #[.slice A0 x.f0.length c0, .int .i64 x.f1, .int .i64 x.f2, .int .i64 x.f3, .int .i64 x.f4] 29 = o0 := ⟨_, rfl⟩
  obtain ⟨o1, ho1⟩ : ∃ o1 : Obj, Obj.cells #[.slice A1 x.f0.length c1, .int .i64 x.f1, .int .i64 x.f2, .int .i64 x.f3, .int .i64 x.f4] 29 = o1 := ⟨_, rfl⟩
  have HB0 := Aside0.mk (below_alloc (below_alloc (Below.refl w.heap.size w) o0) o1)
  have EQ := Aside0.mk (equalL.calls A0 c0 A1 c1 x.f0.length x.f0 ((w.alloc o0).alloc o1) rfl (Kd.C_below hr0 HB0.out) (Kd.C_below hr1 HB0.out) hl)
  have H0 : Aside0 (((w.alloc o0).alloc o1).heap[w.heap.size]? = some o0) := ⟨blk_alloc (blk_new w o0) o1⟩
  have H1 : Aside0 (((w.alloc o0).alloc o1).heap[w.heap.size + 1]? = some o1) := ⟨by have := blk_new (w.alloc o0) o1; rwa [World.size_alloc] at this⟩
  subst ho0 ho1
  clear hr0 hr1
  go_enter Tryd.func45, Tryd.ntmps45
  go_wp2_with (first | (go_at_call 46; (with_reducible refine EQ.out.mono ?_); rintro e w1 ⟨rfl, hb⟩; have HB1 := Aside0.mk (below_step HB0.out hb); have b0 := blk_below H0.out hb; have b1 := blk_below H1.out hb; have x1 := (blk_cell b0 1).trans rfl; have x2 := (blk_cell b0 2).trans rfl; have x3 := (blk_cell b0 3).trans rfl; have x4 := (blk_cell b0 4).trans rfl; have y1 := (blk_cell b1 1).trans rfl; have y2 := (blk_cell b1 2).trans rfl; have y3 := (blk_cell b1 3).trans rfl; have y4 := (blk_cell b1 4).trans rfl; clear hb b0 b1))
  go_ret
  exact ⟨rfl, HB1.out⟩
set_option maxHeartbeats 4000000 in
set_option maxRecDepth 100000 in
theorem sameE.calls (a0 a1 : Addr) (x : SE) (w : World) (hr0 : Kd.C kE w (some a0) 1 [x]) (hr1 : Kd.C kE w (some a1) 1 [x]) (hl : x.f0.length ≤ 1000000) :
    Calls Tryd.prog 22 #[.slice (some a0) 1 1, .slice (some a1) 1 1] w fun e w' => e = .returned (.bool true) ∧ Below w.heap.size w w' := by
  obtain ⟨ad, A0, c0, e0, hc0, _, hC0⟩ := at_E hr0 0 (by decide) (by decide)
  obtain ⟨ae, A1, c1, e1, hc1, _, hC1⟩ := at_E hr1 0 (by decide) (by decide)
  cases e0
  cases e1
  have hx : rd_E [x] 0 = x := rfl
  rw [hx] at hc0 hc1 hC0 hC1
  have z : (0 : Int).toNat * 5 = 0 := rfl
  rw [z] at hc0 hc1
  have p0 : w.cell? a0 = some (.slice A0 x.f0.length c0) := by simpa [Addr.add] using hc0 0 _ rfl
  have p1 : w.cell? ⟨a0.block, a0.off + 1, none⟩ = some (.int .i64 x.f1) := by simpa [Addr.add] using hc0 1 _ rfl
  have p2 : w.cell? ⟨a0.block, a0.off + 2, none⟩ = some (.int .i64 x.f2) := by simpa [Addr.add] using hc0 2 _ rfl
  have p3 : w.cell? ⟨a0.block, a0.off + 3, none⟩ = some (.int .i64 x.f3) := by simpa [Addr.add] using hc0 3 _ rfl
  have p4 : w.cell? ⟨a0.block, a0.off + 4, none⟩ = some (.int .i64 x.f4) := by simpa [Addr.add] using hc0 4 _ rfl
  have r0 : w.cell? a1 = some (.slice A1 x.f0.length c1) := by simpa [Addr.add] using hc1 0 _ rfl
  have r1 : w.cell? ⟨a1.block, a1.off + 1, none⟩ = some (.int .i64 x.f1) := by simpa [Addr.add] using hc1 1 _ rfl
  have r2 : w.cell? ⟨a1.block, a1.off + 2, none⟩ = some (.int .i64 x.f2) := by simpa [Addr.add] using hc1 2 _ rfl
  have r3 : w.cell? ⟨a1.block, a1.off + 3, none⟩ = some (.int .i64 x.f3) := by simpa [Addr.add] using hc1 3 _ rfl
  have r4 : w.cell? ⟨a1.block, a1.off + 4, none⟩ = some (.int .i64 x.f4) := by simpa [Addr.add] using hc1 4 _ rfl
  have EE := Aside0.mk (fun W (hb : Below w.heap.size w W) => entEq.calls A0 c0 A1 c1 x W (Kd.C_below hC0 hb) (Kd.C_below hC1 hb) hl)
  obtain ⟨o0, ho0⟩ : ∃ o0 : Obj, Obj.cells #[.slice A0 x.f0.length c0, .int .i64 x.f1, .int .i64 x.f2, .int .i64 x.f3, .int .i64 x.f4] 29 = o0 := ⟨_, rfl⟩
  obtain ⟨o1, ho1⟩ : ∃ o1 : Obj, Obj.cells #[.slice A1 x.f0.length c1, .int .i64 x.f1, .int .i64 x.f2, .int .i64 x.f3, .int .i64 x.f4] 29 = o1 := ⟨_, rfl⟩
  have HB0 := Aside0.mk (below_alloc (below_alloc (Below.refl w.heap.size w) o0) o1)
  have r0' := cell_alloc_old o0 r0
  have r1' := cell_alloc_old o0 r1
  have r2' := cell_alloc_old o0 r2
  have r3' := cell_alloc_old o0 r3
  have r4' := cell_alloc_old o0 r4
  subst ho0 ho1
  clear hr0 hr1 hc0 hc1 hC0 hC1 hx z
  go_enter Tryd.func22, Tryd.ntmps22
  go_wp2
  refine wp_loop_rounds 2 ?_
  rw [rounds_succ]
  go_wp2_with (first | (go_at_call 45; (with_reducible refine (EE.out _ HB0.out).mono ?_); rintro e w1 ⟨rfl, hb⟩; have HB1 := Aside0.mk (below_step HB0.out hb); clear hb))
  rw [rounds_succ]
  go_wp2
  go_ret
  exact ⟨rfl, HB1.out⟩
end Go.Proofs.YtbgmnmjokdfmlaaDoor.PA
namespace Go.Proofs.YtbgmnmjokdfmlaaDoor.PA
open Go.RowKit Go.Proofs.YtbgmnmjokdfmlaaDoorW.PrintWords Go.Proofs.YtbgmnmjokdfmlaaDoorW.PrintLast Go.Proofs.YtbgmnmjokdfmlaaDoorW.PrintMore
attribute [local go_sem] max2_int min2_int max_two min_two max_three min_three max_four min_four   -- for this text's walks alone
theorem eqA54 (d : Nat) (w : World) (x0 y0 : Int) (x1 y1 : Int) :
    (Op.equalIn (d + 2) 54 (.agg #[.int .i64 x0, .int .u64 x1]) (.agg #[.int .i64 y0, .int .u64 y1])).run Tryd.prog w = .ok (x0 == y0 && (x1 == y1)) w := by
  refine eqA_of Tryd.underlying54 (by kernel_rfl) ?_
  refine eqf_cons (by rfl) (by go_simp; rfl) (by go_simp; rfl) (by go_simp) ?_
  exact eqf_last (by rfl) (by go_simp; rfl) (by go_simp; rfl) (by go_simp)
end Go.Proofs.YtbgmnmjokdfmlaaDoor.PA
namespace Go.Proofs.YtbgmnmjokdfmlaaDoor.PA
open Go.RowKit Go.Proofs.YtbgmnmjokdfmlaaDoorW.PrintWords Go.Proofs.YtbgmnmjokdfmlaaDoorW.PrintLast Go.Proofs.YtbgmnmjokdfmlaaDoorW.PrintMore
attribute [local go_sem] max2_int min2_int max_two min_two max_three min_three max_four min_four   -- for this text's walks alone
attribute [local go_sem high] eqA54
def api_Sample_23.l0 : Nat → List (S54) → List (S54) → Int → Int → Option (Bool)
  | 0, _, _, _, _ => none
  | k + 1, x0, x1, x12, x13 => if x13 < x12 then (if 0 ≤ x13 then (if x13 < (x0.length : Int) then (if x13 < (x1.length : Int) then (if (!(((rd_T54 x0 x13).f0) == ((rd_T54 x1 x13).f0)) || (!(((rd_T54 x0 x13).f1) == ((rd_T54 x1 x13).f1)))) = true then (some false) else (api_Sample_23.l0 k x0 x1 x12 (wrap64 (x13 + 1)))) else (none)) else (none)) else (none)) else (some true)
def api_Sample_23.f (k : Nat) (l0 : List (S54)) (l1 : List (S54)) : Option (Bool) := if (l0.length : Int) = (l1.length : Int) then (api_Sample_23.l0 k l0 l1 (l0.length : Int) 0) else (some false)
theorem api_Sample_23.mono_l : ∀ k, (∀ y0 y1 y2 y3, LeO (api_Sample_23.l0 k y0 y1 y2 y3) (api_Sample_23.l0 (k + 1) y0 y1 y2 y3))
  | 0 => fun _ _ _ _ r h => by simp [api_Sample_23.l0] at h
  | k + 1 => by
    have ih0 := api_Sample_23.mono_l k
    · intro y0 y1 y2 y3
      unfold api_Sample_23.l0
      repeat' first
      | (with_reducible exact ih0 _ _ _ _)
      | (with_reducible exact LeO.refl _)
      | (with_reducible exact LeO.none _)
      | (with_reducible refine LeO.ite ?_ ?_)
      | (with_reducible refine LeO.bind ?_ (fun _ => ?_))
      | exact ih0 _ _ _ _
      | exact LeO.none _
      | refine LeO.ite ?_ ?_
      | refine LeO.bind ?_ (fun _ => ?_)
theorem api_Sample_23.mono : ∀ a0 a1 k, LeO (api_Sample_23.f k a0 a1) (api_Sample_23.f (k + 1) a0 a1) := by
  intro a0 a1 k
  have ih0 := api_Sample_23.mono_l k
  unfold api_Sample_23.f
  repeat' first
      | (with_reducible exact ih0 _ _ _ _)
      | (with_reducible exact LeO.refl _)
      | (with_reducible exact LeO.none _)
      | (with_reducible refine LeO.ite ?_ ?_)
      | (with_reducible refine LeO.bind ?_ (fun _ => ?_))
      | exact ih0 _ _ _ _
      | exact LeO.none _
      | refine LeO.ite ?_ ?_
      | refine LeO.bind ?_ (fun _ => ?_)
set_option maxHeartbeats 8000000 in
set_option maxRecDepth 100000 in
theorem api_Sample_23.calls (k : Nat) (A0 : Option Addr) (c0 : Nat) (l0 : List (S54)) (A1 : Option Addr) (c1 : Nat) (l1 : List (S54)) (r : Bool) (w : World) (hr0 : Kd.C k54 w A0 l0.length l0) (hc0 : l0.length ≤ c0) (hr1 : Kd.C k54 w A1 l1.length l1) (hc1 : l1.length ≤ c1) (h : api_Sample_23.f k l0 l1 = some r) :
    Calls Tryd.prog 23 #[.slice A0 l0.length c0, .slice A1 l1.length c1] w fun e w' => e = .returned (.bool r) ∧ Drawn0 w w' := by
  have hu54 := Tryd.underlying54
  have HR0 := Aside0.mk hr0
  have HC0 := Aside0.mk hc0
  clear hr0 hc0
  have HR1 := Aside0.mk hr1
  have HC1 := Aside0.mk hc1
  clear hr1 hc1
  have H : (if (l0.length : Int) = (l1.length : Int) then (api_Sample_23.l0 k l0 l1 (l0.length : Int) 0) else (some false)) = some r := h
  clear h
  by_cases c3 : (l0.length : Int) = (l1.length : Int)
  · rw [if_pos c3] at H
    have c3b0 : ((l0.length : Int) == (l1.length : Int)) = true := beq_iff_eq.mpr c3
    have c3b1 : ((l0.length : Int) != (l1.length : Int)) = false := bne_eq_false_iff_eq.mpr c3
    have c3b2 : (l0.length == l1.length) = true := by first | simpa using c3 | (simp at c3 ⊢; omega)
    clear c3
    have H' := Aside0.mk H
    clear H
    go_enter Tryd.func23, Tryd.ntmps23
    go_wp2
    repeat (go_quiet (fail); try go_wp2)
    go_loopg [13] k (fun kq v13 w' => ∃ (x13_1 : Int), v13 = .int .i64 x13_1 ∧ Aside0 (api_Sample_23.l0 kq l0 l1 (l0.length : Int) x13_1 = some r) ∧ Aside0 (kq ≤ k) ∧ Drawn0 w w')
    case atStart => exact ⟨(0), (by first | rfl | (simp; done) | (simp [*]; done)), H', ⟨Nat.le_refl _⟩, by repeat (first | exact Drawn0.refl _ | apply Drawn0.step)⟩
    case round =>
      clear H'
      try clear c1
      try clear c2
      try clear p2
      try clear c3
      try clear c3b0
      try clear c3b1
      try clear c3b2
      obtain ⟨x13_1, rfl, HA, HK1, ⟨m1, rfl⟩⟩ := hrel
      cases gk with
      | zero => exact absurd HA.out (by simp [api_Sample_23.l0])
      | succ k1 =>
        have H := HA.out
        clear HA
        simp only [api_Sample_23.l0] at H
        by_cases c4 : x13_1 < (l0.length : Int)
        · rw [if_pos c4] at H
          have c4b0 : decide (x13_1 < (l0.length : Int)) = true := decide_eq_true c4
          clear c4
          by_cases c5 : 0 ≤ x13_1
          · rw [if_pos c5] at H
            have c5b0 : decide (0 ≤ x13_1) = true := decide_eq_true c5
            clear c5
            by_cases c6 : x13_1 < (l0.length : Int)
            · rw [if_pos c6] at H
              have c6b0 : decide (x13_1 < (l0.length : Int)) = true := decide_eq_true c6
              clear c6
              by_cases c7 : x13_1 < (l1.length : Int)
              · rw [if_pos c7] at H
                have c7b0 : decide (x13_1 < (l1.length : Int)) = true := decide_eq_true c7
                clear c7
                by_cases c8 : (!(((rd_T54 l0 x13_1).f0) == ((rd_T54 l1 x13_1).f0)) || (!(((rd_T54 l0 x13_1).f1) == ((rd_T54 l1 x13_1).f1)))) = true
                · rw [if_pos c8] at H
                  have c8b0 : (!(((rd_T54 l0 x13_1).f0) == ((rd_T54 l1 x13_1).f0)) || (!(((rd_T54 l0 x13_1).f1) == ((rd_T54 l1 x13_1).f1)))) = true := c8
                  clear c8
                  obtain rfl := Option.some.inj H
                  have p322 : 0 ≤ (x13_1 : Int) := of_decide_eq_true (by first | (with_reducible assumption) | assumption)
                  have q322 : x13_1 < (l0.length : Int) := of_decide_eq_true (by first | (with_reducible assumption) | assumption)
                  obtain ⟨ad322, e322, hx322_0, hx322_1⟩ := at_T54 HR0.out x13_1 p322 q322
                  cases e322
                  replace p322 := eq_true p322
                  replace q322 := eq_true q322
                  have p323 : 0 ≤ (x13_1 : Int) := of_decide_eq_true (by first | (with_reducible assumption) | assumption)
                  have q323 : x13_1 < (l1.length : Int) := of_decide_eq_true (by first | (with_reducible assumption) | assumption)
                  obtain ⟨ad323, e323, hx323_0, hx323_1⟩ := at_T54 HR1.out x13_1 p323 q323
                  cases e323
                  replace p323 := eq_true p323
                  replace q323 := eq_true q323
                  go_wp2
                  repeat (go_quiet (fail); try go_wp2)
                  go_ret
                  exact ⟨by first | rfl | (simp; done) | (simp [*]; done) | (simp; decide +kernel), by repeat (first | exact Drawn0.refl _ | apply Drawn0.step)⟩
                · rw [if_neg c8] at H
                  have c8b0 : (!(((rd_T54 l0 x13_1).f0) == ((rd_T54 l1 x13_1).f0)) || (!(((rd_T54 l0 x13_1).f1) == ((rd_T54 l1 x13_1).f1)))) = false := by simpa using c8
                  clear c8
                  have H' := Aside0.mk H
                  clear H
                  have p322 : 0 ≤ (x13_1 : Int) := of_decide_eq_true (by first | (with_reducible assumption) | assumption)
                  have q322 : x13_1 < (l0.length : Int) := of_decide_eq_true (by first | (with_reducible assumption) | assumption)
                  obtain ⟨ad322, e322, hx322_0, hx322_1⟩ := at_T54 HR0.out x13_1 p322 q322
                  cases e322
                  replace p322 := eq_true p322
                  replace q322 := eq_true q322
                  have p323 : 0 ≤ (x13_1 : Int) := of_decide_eq_true (by first | (with_reducible assumption) | assumption)
                  have q323 : x13_1 < (l1.length : Int) := of_decide_eq_true (by first | (with_reducible assumption) | assumption)
                  obtain ⟨ad323, e323, hx323_0, hx323_1⟩ := at_T54 HR1.out x13_1 p323 q323
                  cases e323
                  replace p323 := eq_true p323
                  replace q323 := eq_true q323
                  go_wp2
                  repeat (go_quiet (fail); try go_wp2)
                  go_roundg k1
                  case measure => have := HK1.out; omega
                  case rel => exact ⟨(wrap64 (x13_1 + 1)), (by first | rfl | (simp; done) | (simp [*]; done)), H', ⟨by have := HK1.out; omega⟩, by repeat (first | exact Drawn0.refl _ | apply Drawn0.step)⟩
              · rw [if_neg c7] at H
                exact absurd H (by simp)
            · rw [if_neg c6] at H
              exact absurd H (by simp)
          · rw [if_neg c5] at H
            exact absurd H (by simp)
        · rw [if_neg c4] at H
          have c4b0 : decide (x13_1 < (l0.length : Int)) = false := decide_eq_false c4
          clear c4
          obtain rfl := Option.some.inj H
          go_wp2
          repeat (go_quiet (fail); try go_wp2)
          go_ret
          exact ⟨by first | rfl | (simp; done) | (simp [*]; done) | (simp; decide +kernel), by repeat (first | exact Drawn0.refl _ | apply Drawn0.step)⟩
  · rw [if_neg c3] at H
    have c3b0 : ((l0.length : Int) == (l1.length : Int)) = false := beq_eq_false_iff_ne.mpr c3
    have c3b1 : ((l0.length : Int) != (l1.length : Int)) = true := bne_iff_ne.mpr c3
    have c3b2 : (l0.length == l1.length) = false := by first | simpa using c3 | (simp at c3 ⊢; omega)
    obtain rfl := Option.some.inj H
    go_enter Tryd.func23, Tryd.ntmps23
    go_wp2
    repeat (go_quiet (fail); try go_wp2)
    go_ret
    exact ⟨by first | rfl | (simp; done) | (simp [*]; done) | (simp; decide +kernel), by repeat (first | exact Drawn0.refl _ | apply Drawn0.step)⟩
end Go.Proofs.YtbgmnmjokdfmlaaDoor.PA
namespace Go.Proofs.YtbgmnmjokdfmlaaDoor.PA
open Go.RowKit Go.Proofs.YtbgmnmjokdfmlaaDoorW.PrintWords Go.Proofs.YtbgmnmjokdfmlaaDoorW.PrintLast Go.Proofs.YtbgmnmjokdfmlaaDoorW.PrintMore
attribute [local go_sem] max2_int min2_int max_two min_two max_three min_three max_four min_four   -- for this text's walks alone
def slices_Equal_byte_byte.l0 : Nat → List Int → List Int → Int → Int → Option (Bool)
  | 0, _, _, _, _ => none
  | k + 1, x0, x1, x12, x13 => if x13 < x12 then (if 0 ≤ x13 then (if x13 < (x0.length : Int) then (if x13 < (x1.length : Int) then (if (rd x0 x13) = (rd x1 x13) then (slices_Equal_byte_byte.l0 k x0 x1 x12 (wrap64 (x13 + 1))) else (some false)) else (none)) else (none)) else (none)) else (some true)
def slices_Equal_byte_byte.f (k : Nat) (l0 : List Int) (l1 : List Int) : Option (Bool) := if (l0.length : Int) = (l1.length : Int) then (slices_Equal_byte_byte.l0 k l0 l1 (l0.length : Int) 0) else (some false)
theorem slices_Equal_byte_byte.mono_l : ∀ k, (∀ y0 y1 y2 y3, LeO (slices_Equal_byte_byte.l0 k y0 y1 y2 y3) (slices_Equal_byte_byte.l0 (k + 1) y0 y1 y2 y3))
  | 0 => fun _ _ _ _ r h => by simp [slices_Equal_byte_byte.l0] at h
  | k + 1 => by
    have ih0 := slices_Equal_byte_byte.mono_l k
    · intro y0 y1 y2 y3
      unfold slices_Equal_byte_byte.l0
      repeat' first
      | (with_reducible exact ih0 _ _ _ _)
      | (with_reducible exact LeO.refl _)
      | (with_reducible exact LeO.none _)
      | (with_reducible refine LeO.ite ?_ ?_)
      | (with_reducible refine LeO.bind ?_ (fun _ => ?_))
      | exact ih0 _ _ _ _
      | exact LeO.none _
      | refine LeO.ite ?_ ?_
      | refine LeO.bind ?_ (fun _ => ?_)
theorem slices_Equal_byte_byte.mono : ∀ a0 a1 k, LeO (slices_Equal_byte_byte.f k a0 a1) (slices_Equal_byte_byte.f (k + 1) a0 a1) := by
  intro a0 a1 k
  have ih0 := slices_Equal_byte_byte.mono_l k
  unfold slices_Equal_byte_byte.f
  repeat' first
      | (with_reducible exact ih0 _ _ _ _)
      | (with_reducible exact LeO.refl _)
      | (with_reducible exact LeO.none _)
      | (with_reducible refine LeO.ite ?_ ?_)
      | (with_reducible refine LeO.bind ?_ (fun _ => ?_))
      | exact ih0 _ _ _ _
      | exact LeO.none _
      | refine LeO.ite ?_ ?_
      | refine LeO.bind ?_ (fun _ => ?_)
set_option maxHeartbeats 8000000 in
set_option maxRecDepth 100000 in
theorem slices_Equal_byte_byte.calls (k : Nat) (A0 : Option Addr) (c0 : Nat) (l0 : List Int) (A1 : Option Addr) (c1 : Nat) (l1 : List Int) (r : Bool) (w : World) (hr0 : Kd.C (Kd.int .u8) w A0 l0.length l0) (hc0 : l0.length ≤ c0) (hr1 : Kd.C (Kd.int .u8) w A1 l1.length l1) (hc1 : l1.length ≤ c1) (h : slices_Equal_byte_byte.f k l0 l1 = some r) :
    Calls Tryd.prog 16 #[.slice A0 l0.length c0, .slice A1 l1.length c1] w fun e w' => e = .returned (.bool r) ∧ Drawn0 w w' := by
  have HR0 := Aside0.mk hr0
  have HC0 := Aside0.mk hc0
  clear hr0 hc0
  have HR1 := Aside0.mk hr1
  have HC1 := Aside0.mk hc1
  clear hr1 hc1
  have H : (if (l0.length : Int) = (l1.length : Int) then (slices_Equal_byte_byte.l0 k l0 l1 (l0.length : Int) 0) else (some false)) = some r := h
  clear h
  by_cases c3 : (l0.length : Int) = (l1.length : Int)
  · rw [if_pos c3] at H
    have c3b0 : ((l0.length : Int) == (l1.length : Int)) = true := beq_iff_eq.mpr c3
    have c3b1 : ((l0.length : Int) != (l1.length : Int)) = false := bne_eq_false_iff_eq.mpr c3
    have c3b2 : (l0.length == l1.length) = true := by first | simpa using c3 | (simp at c3 ⊢; omega)
    clear c3
    have H' := Aside0.mk H
    clear H
    go_enter Tryd.func16, Tryd.ntmps16
    go_wp2
    repeat (go_quiet (fail); try go_wp2)
    go_loopg [13] k (fun kq v13 w' => ∃ (x13_1 : Int), v13 = .int .i64 x13_1 ∧ Aside0 (slices_Equal_byte_byte.l0 kq l0 l1 (l0.length : Int) x13_1 = some r) ∧ Aside0 (kq ≤ k) ∧ Drawn0 w w')
    case atStart => exact ⟨(0), (by first | rfl | (simp; done) | (simp [*]; done)), H', ⟨Nat.le_refl _⟩, by repeat (first | exact Drawn0.refl _ | apply Drawn0.step)⟩
    case round =>
      clear H'
      try clear c1
      try clear p2
      try clear c3
      try clear c3b0
      try clear c3b1
      try clear c3b2
      obtain ⟨x13_1, rfl, HA, HK1, ⟨m1, rfl⟩⟩ := hrel
      cases gk with
      | zero => exact absurd HA.out (by simp [slices_Equal_byte_byte.l0])
      | succ k1 =>
        have H := HA.out
        clear HA
        simp only [slices_Equal_byte_byte.l0] at H
        by_cases c4 : x13_1 < (l0.length : Int)
        · rw [if_pos c4] at H
          have c4b0 : decide (x13_1 < (l0.length : Int)) = true := decide_eq_true c4
          clear c4
          by_cases c5 : 0 ≤ x13_1
          · rw [if_pos c5] at H
            have c5b0 : decide (0 ≤ x13_1) = true := decide_eq_true c5
            clear c5
            by_cases c6 : x13_1 < (l0.length : Int)
            · rw [if_pos c6] at H
              have c6b0 : decide (x13_1 < (l0.length : Int)) = true := decide_eq_true c6
              clear c6
              by_cases c7 : x13_1 < (l1.length : Int)
              · rw [if_pos c7] at H
                have c7b0 : decide (x13_1 < (l1.length : Int)) = true := decide_eq_true c7
                clear c7
                by_cases c8 : (rd l0 x13_1) = (rd l1 x13_1)
                · rw [if_pos c8] at H
                  have c8b0 : ((rd l0 x13_1) == (rd l1 x13_1)) = true := beq_iff_eq.mpr c8
                  have c8b1 : ((rd l0 x13_1) != (rd l1 x13_1)) = false := bne_eq_false_iff_eq.mpr c8
                  clear c8
                  have H' := Aside0.mk H
                  clear H
                  have p241 : 0 ≤ (x13_1 : Int) := of_decide_eq_true (by first | (with_reducible assumption) | assumption)
                  have q241 : x13_1 < (l0.length : Int) := of_decide_eq_true (by first | (with_reducible assumption) | assumption)
                  obtain ⟨ad241, e241, hx241_0⟩ := Kd.at_int HR0.out x13_1 p241 q241
                  cases e241
                  replace p241 := eq_true p241
                  replace q241 := eq_true q241
                  have p242 : 0 ≤ (x13_1 : Int) := of_decide_eq_true (by first | (with_reducible assumption) | assumption)
                  have q242 : x13_1 < (l1.length : Int) := of_decide_eq_true (by first | (with_reducible assumption) | assumption)
                  obtain ⟨ad242, e242, hx242_0⟩ := Kd.at_int HR1.out x13_1 p242 q242
                  cases e242
                  replace p242 := eq_true p242
                  replace q242 := eq_true q242
                  go_wp2
                  repeat (go_quiet (fail); try go_wp2)
                  go_roundg k1
                  case measure => have := HK1.out; omega
                  case rel => exact ⟨(wrap64 (x13_1 + 1)), (by first | rfl | (simp; done) | (simp [*]; done)), H', ⟨by have := HK1.out; omega⟩, by repeat (first | exact Drawn0.refl _ | apply Drawn0.step)⟩
                · rw [if_neg c8] at H
                  have c8b0 : ((rd l0 x13_1) == (rd l1 x13_1)) = false := beq_eq_false_iff_ne.mpr c8
                  have c8b1 : ((rd l0 x13_1) != (rd l1 x13_1)) = true := bne_iff_ne.mpr c8
                  obtain rfl := Option.some.inj H
                  have p241 : 0 ≤ (x13_1 : Int) := of_decide_eq_true (by first | (with_reducible assumption) | assumption)
                  have q241 : x13_1 < (l0.length : Int) := of_decide_eq_true (by first | (with_reducible assumption) | assumption)
                  obtain ⟨ad241, e241, hx241_0⟩ := Kd.at_int HR0.out x13_1 p241 q241
                  cases e241
                  replace p241 := eq_true p241
                  replace q241 := eq_true q241
                  have p242 : 0 ≤ (x13_1 : Int) := of_decide_eq_true (by first | (with_reducible assumption) | assumption)
                  have q242 : x13_1 < (l1.length : Int) := of_decide_eq_true (by first | (with_reducible assumption) | assumption)
                  obtain ⟨ad242, e242, hx242_0⟩ := Kd.at_int HR1.out x13_1 p242 q242
                  cases e242
                  replace p242 := eq_true p242
                  replace q242 := eq_true q242
                  go_wp2
                  repeat (go_quiet (fail); try go_wp2)
                  go_ret
                  exact ⟨by first | rfl | (simp; done) | (simp [*]; done) | (simp; decide +kernel), by repeat (first | exact Drawn0.refl _ | apply Drawn0.step)⟩
              · rw [if_neg c7] at H
                exact absurd H (by simp)
            · rw [if_neg c6] at H
              exact absurd H (by simp)
          · rw [if_neg c5] at H
            exact absurd H (by simp)
        · rw [if_neg c4] at H
          have c4b0 : decide (x13_1 < (l0.length : Int)) = false := decide_eq_false c4
          clear c4
          obtain rfl := Option.some.inj H
          go_wp2
          repeat (go_quiet (fail); try go_wp2)
          go_ret
          exact ⟨by first | rfl | (simp; done) | (simp [*]; done) | (simp; decide +kernel), by repeat (first | exact Drawn0.refl _ | apply Drawn0.step)⟩
  · rw [if_neg c3] at H
    have c3b0 : ((l0.length : Int) == (l1.length : Int)) = false := beq_eq_false_iff_ne.mpr c3
    have c3b1 : ((l0.length : Int) != (l1.length : Int)) = true := bne_iff_ne.mpr c3
    have c3b2 : (l0.length == l1.length) = false := by first | simpa using c3 | (simp at c3 ⊢; omega)
    obtain rfl := Option.some.inj H
    go_enter Tryd.func16, Tryd.ntmps16
    go_wp2
    repeat (go_quiet (fail); try go_wp2)
    go_ret
    exact ⟨by first | rfl | (simp; done) | (simp [*]; done) | (simp; decide +kernel), by repeat (first | exact Drawn0.refl _ | apply Drawn0.step)⟩
end Go.Proofs.YtbgmnmjokdfmlaaDoor.PA
namespace Go.Proofs.YtbgmnmjokdfmlaaDoor.PA
open Go.RowKit Go.Proofs.YtbgmnmjokdfmlaaDoor.G Go.Proofs.YtbgmnmjokdfmlaaDoorW.PrintWords Go.Proofs.YtbgmnmjokdfmlaaDoorW.PrintLast Go.Proofs.YtbgmnmjokdfmlaaDoorW.PrintMore
theorem eqS_go (l : List S54) (hl : l.length ≤ 1000000) : ∀ d i, i + d = l.length → ∀ k, d < k → api_Sample_23.l0 k l l (l.length : Int) (i : Int) = some true
  | 0, i, h, k + 1, hk => by
    unfold api_Sample_23.l0
    rw [if_neg (by omega)]
  | d + 1, i, h, k + 1, hk => by
    unfold api_Sample_23.l0
    have e : wrap64 ((i : Int) + 1) = ((i + 1 : Nat) : Int) := by rw [w64 (by omega) (by omega)]; omega
    rw [if_pos (by omega), if_pos (by omega), if_pos (by omega), if_pos (by omega), if_neg (by simp), e]
    exact eqS_go l hl d (i + 1) (by omega) k (by omega)
theorem EqualS (A0 : Option Addr) (c0 : Nat) (A1 : Option Addr) (c1 : Nat) (l : List S54) (w : World) (hr0 : Kd.C k54 w A0 l.length l) (hc0 : l.length ≤ c0) (hr1 : Kd.C k54 w A1 l.length l) (hc1 : l.length ≤ c1) (hl : l.length ≤ 1000000) :
    Calls Tryd.prog 23 #[.slice A0 l.length c0, .slice A1 l.length c1] w fun e w' => e = .returned (.bool true) ∧ Below w.heap.size w w' :=
  (api_Sample_23.calls (l.length + 1) A0 c0 l A1 c1 l true w hr0 hc0 hr1 hc1 (by
    unfold api_Sample_23.f
    rw [if_pos rfl]
    exact eqS_go l hl l.length 0 (by omega) _ (by omega))).mono fun e w' ⟨he, hd⟩ => ⟨he, hd.below⟩
end Go.Proofs.YtbgmnmjokdfmlaaDoor.PA
namespace Go.Proofs.YtbgmnmjokdfmlaaDoor.PA
open Go.RowKit Go.Proofs.YtbgmnmjokdfmlaaDoor.G Go.Proofs.YtbgmnmjokdfmlaaDoorW.PrintWords Go.Proofs.YtbgmnmjokdfmlaaDoorW.PrintLast Go.Proofs.YtbgmnmjokdfmlaaDoorW.PrintMore
set_option maxHeartbeats 4000000 in
set_option maxRecDepth 100000 in
theorem serEq.calls (A0 A1 B0 B1 : Option Addr) (a0 a1 b0 b1 : Nat) (x : S60) (w : World) (hr0 : Kd.C k65 w A0 x.f0.length x.f0) (hr1 : Kd.C k54 w A1 x.f1.length x.f1) (hs0 : Kd.C k65 w B0 x.f0.length x.f0) (hs1 : Kd.C k54 w B1 x.f1.length x.f1) (h1 : x.f1.length ≤ a1) (h2 : x.f1.length ≤ b1) (hl : x.f0.length ≤ 1000000) (hm : x.f1.length ≤ 1000000) :
    Calls Tryd.prog 48 #[.agg #[.slice A0 x.f0.length a0, .slice A1 x.f1.length a1], .agg #[.slice B0 x.f0.length b0, .slice B1 x.f1.length b1]] w fun e w' => e = .returned (.bool true) ∧ Below w.heap.size w w' := by
  obtain ⟨o0, ho0⟩ : ∃ o0 : Obj, Obj.cells #[.slice A0 x.f0.length a0, .slice A1 x.f1.length a1] 60 = o0 := ⟨_, rfl⟩
  obtain ⟨o1, ho1⟩ : ∃ o1 : Obj, Obj.cells #[.slice B0 x.f0.length b0, .slice B1 x.f1.length b1] 60 = o1 := ⟨_, rfl⟩
  have HB0 := Aside0.mk (below_alloc (below_alloc (Below.refl w.heap.size w) o0) o1)
  have EQ := Aside0.mk (equalL.calls A0 a0 B0 b0 x.f0.length x.f0 ((w.alloc o0).alloc o1) rfl (Kd.C_below hr0 HB0.out) (Kd.C_below hs0 HB0.out) hl)
  have ES := Aside0.mk (fun W (hb : Below w.heap.size w W) => EqualS A1 a1 B1 b1 x.f1 W (Kd.C_below hr1 hb) h1 (Kd.C_below hs1 hb) h2 hm)
  have H0 : Aside0 (((w.alloc o0).alloc o1).heap[w.heap.size]? = some o0) := ⟨blk_alloc (blk_new w o0) o1⟩
  have H1 : Aside0 (((w.alloc o0).alloc o1).heap[w.heap.size + 1]? = some o1) := ⟨by have := blk_new (w.alloc o0) o1; rwa [World.size_alloc] at this⟩
  subst ho0 ho1
  clear hr0 hr1 hs0 hs1 h1 h2
  generalize x.f0.length = n0 at *
  generalize x.f1.length = n1 at *
  go_enter Tryd.func48, Tryd.ntmps48
  go_wp2_with (first | (go_at_call 46; (with_reducible refine EQ.out.mono ?_); rintro e w1 ⟨rfl, hb⟩; have HB1 := Aside0.mk (below_step HB0.out hb); have x1 := (blk_cell (blk_below H0.out hb) 1).trans rfl; have y1 := (blk_cell (blk_below H1.out hb) 1).trans rfl; clear hb) | (go_at_call 23; (with_reducible refine (ES.out _ HB1.out).mono ?_); rintro e w2 ⟨rfl, hb⟩; have HB2 := Aside0.mk (below_step HB1.out hb); clear hb))
  go_ret
  exact ⟨rfl, HB2.out⟩
def okSer (l : List S60) : Prop := ∀ x ∈ l, x.f0.length ≤ 1000000 ∧ x.f1.length ≤ 1000000
set_option maxHeartbeats 4000000 in
set_option maxRecDepth 100000 in
theorem eqSer.calls (A B : Option Addr) (c d n : Nat) (l : List S60) (w : World) (hn : l.length = n) (hr : Kd.C k60 w A n l) (hs : Kd.C k60 w B n l) (hl : n ≤ 1000000) (hok : okSer l) :
    Calls Tryd.prog 47 #[.slice A n c, .slice B n d, .func (.func 48) #[] #[]] w fun e w' => e = .returned (.bool true) ∧ Below w.heap.size w w' := by
  subst hn
  have HR := Aside0.mk hr
  have HS := Aside0.mk hs
  have HOK := Aside0.mk hok
  clear hr hs hok
  have hnn : ((l.length : Int) != (l.length : Int)) = false := by simp
  go_enter Tryd.func47, Tryd.ntmps47
  go_wp2
  go_loopg [17] l.length (fun kx s17 wr => ∃ (k : Nat), s17 = .int .i64 k ∧ k ≤ l.length ∧ l.length - k ≤ kx ∧ Aside0 (Below w.heap.size w wr))
  case atStart => exact ⟨0, rfl, Nat.zero_le _, Nat.le_refl _, ⟨Below.refl _ _⟩⟩
  case round =>
    obtain ⟨k, rfl, hk, hkx, HB⟩ := hrel
    by_cases hlt : k < l.length
    · obtain ⟨ad, A0, c0, A1, c1, rfl, x0, x1, l0, g0, l1, g1⟩ := at_T60 (Kd.C_below HR.out HB.out) (k : Int) (by omega) (by omega)
      obtain ⟨ae, B0, d0, B1, d1, rfl, y0, y1, m0, h0, m1, h1⟩ := at_T60 (Kd.C_below HS.out HB.out) (k : Int) (by omega) (by omega)
      rw [Int.toNat_natCast] at x0 x1 y0 y1
      have hkz : (k : Int) < (l.length : Int) := by omega
      have hx : (rd_T60 l (k : Int)).f0.length ≤ 1000000 ∧ (rd_T60 l (k : Int)).f1.length ≤ 1000000 := by
        have e : rd_T60 l (k : Int) = l[k] := by simp [rd_T60, List.getD_eq_getElem?_getD, List.getElem?_eq_getElem hlt]
        rw [e]
        exact HOK.out _ (List.getElem_mem hlt)
      generalize rd_T60 l (k : Int) = x at *
      have EE := Aside0.mk (fun W (hb : Below wr.heap.size wr W) => serEq.calls A0 A1 B0 B1 c0 c1 d0 d1 x W (Kd.C_below g0 hb) (Kd.C_below g1 hb) (Kd.C_below h0 hb) (Kd.C_below h1 hb) l1 m1 hx.1 hx.2)
      obtain ⟨o0, ho0⟩ : ∃ o0 : Obj, Obj.cells #[.slice A0 x.f0.length c0, .slice A1 x.f1.length c1] 60 = o0 := ⟨_, rfl⟩
      obtain ⟨o1, ho1⟩ : ∃ o1 : Obj, Obj.cells #[.slice B0 x.f0.length d0, .slice B1 x.f1.length d1] 60 = o1 := ⟨_, rfl⟩
      have HB0 := Aside0.mk (below_alloc (below_alloc (Below.refl wr.heap.size wr) o0) o1)
      have z0 := pw_cell_below (below_alloc (Below.refl wr.heap.size wr) o0) y0
      have z1 := pw_cell_below (below_alloc (Below.refl wr.heap.size wr) o0) y1
      subst ho0 ho1
      clear g0 g1 h0 h1 l0 l1 m0 m1 y0 y1 hx
      generalize x.f0.length = n0 at *
      generalize x.f1.length = n1 at *
      go_wp2_with (first | (go_at_call 48; (with_reducible refine (EE.out _ HB0.out).mono ?_); rintro e w2 ⟨rfl, hb⟩; have HB2 := Aside0.mk (below_step HB.out (below_step HB0.out hb)); clear hb))
      go_roundg (l.length - (k + 1))
      case measure => omega
      case rel => exact ⟨k + 1, by go_num, by omega, Nat.le_refl _, HB2⟩
    · obtain rfl : k = l.length := by omega
      have hkz : ¬ (l.length : Int) < (l.length : Int) := by omega
      go_wp2
      go_ret
      exact ⟨rfl, HB.out⟩
set_option maxHeartbeats 4000000 in
theorem sameSer.calls (A B : Option Addr) (c d n : Nat) (l : List S60) (w : World) (hn : l.length = n) (hr : Kd.C k60 w A n l) (hs : Kd.C k60 w B n l) (hl : n ≤ 1000000) (hok : okSer l) :
    Calls Tryd.prog 24 #[.slice A n c, .slice B n d] w fun e w' => e = .returned (.bool true) ∧ Below w.heap.size w w' := by
  have EE := Aside0.mk (eqSer.calls A B c d n l w hn hr hs hl hok)
  clear hn hr hs hok
  go_enter Tryd.func24, Tryd.ntmps24
  go_wp2_with (first | (go_at_call 47; (with_reducible refine EE.out.mono ?_); rintro e w2 ⟨rfl, hb⟩; have HB2 := Aside0.mk hb; clear hb))
  go_ret
  exact ⟨rfl, HB2.out⟩
end Go.Proofs.YtbgmnmjokdfmlaaDoor.PA
namespace Go.Proofs.YtbgmnmjokdfmlaaDoor.PA
def catL (t : List S65) : List S60 → List S54
  | [] => []
  | x :: l => (if cmpL x.f0 t = 0 then x.f1 else []) ++ catL t l
theorem catL_append (t : List S65) : ∀ a b : List S60, catL t (a ++ b) = catL t a ++ catL t b
  | [], b => rfl
  | x :: a, b => by rw [List.cons_append, catL, catL, catL_append t a b, List.append_assoc]
theorem catL_none {t : List S65} : ∀ {l : List S60}, (∀ x ∈ l, ¬ cmpL x.f0 t = 0) → catL t l = []
  | [], _ => rfl
  | x :: l, h => by rw [catL, if_neg (h x (List.mem_cons_self ..)), catL_none (fun y hy => h y (List.mem_cons_of_mem _ hy))]; rfl
theorem catL_some {t : List S65} : ∀ {l : List S60}, catL t l ≠ [] → ∃ x ∈ l, x.f0 = t
  | [], h => absurd rfl h
  | x :: l, h => by
    by_cases hx : cmpL x.f0 t = 0
    · exact ⟨x, List.mem_cons_self .., (cmpL_eq0 _ _).1 hx⟩
    · rw [catL, if_neg hx] at h
      obtain ⟨y, hy, e⟩ := catL_some h
      exact ⟨y, List.mem_cons_of_mem _ hy, e⟩
theorem cmpL_self (t : List S65) : cmpL t t = 0 := (cmpL_eq0 t t).2 rfl
theorem catL_one : ∀ {l : List S60} {x : S60}, SrtL l → x ∈ l → catL x.f0 l = x.f1
  | y :: l, x, h, hx => by
    obtain ⟨h1, h2⟩ := List.pairwise_cons.1 h
    rcases List.mem_cons.1 hx with rfl | hx
    · rw [catL, if_pos (cmpL_self _), catL_none (fun z hz => ?_), List.append_nil]
      have := h1 z hz
      rw [cmpL_swap]
      omega
    · rw [catL, if_neg (by have := h1 x hx; omega), catL_one h2 hx]
      rfl
theorem SrtL_ext : ∀ {a b : List S60}, SrtL a → SrtL b → (∀ x, x ∈ a ↔ x ∈ b) → a = b
  | [], [], _, _, _ => rfl
  | [], y :: b, _, _, h => by cases (h y).2 (List.mem_cons_self ..)
  | x :: a, [], _, _, h => by cases (h x).1 (List.mem_cons_self ..)
  | x :: a, y :: b, ha, hb, h => by
    obtain ⟨a1, a2⟩ := List.pairwise_cons.1 ha
    obtain ⟨b1, b2⟩ := List.pairwise_cons.1 hb
    have hxy : x = y := by
      rcases List.mem_cons.1 ((h x).1 (List.mem_cons_self ..)) with e | hx
      · exact e
      · rcases List.mem_cons.1 ((h y).2 (List.mem_cons_self ..)) with e | hy
        · exact e.symm
        · have h1 := b1 x hx
          have h2 := a1 y hy
          rw [cmpL_swap] at h1
          omega
    subst hxy
    have hself := cmpL_self x.f0
    rw [SrtL_ext a2 b2 (fun z => ⟨fun hz => by
      rcases List.mem_cons.1 ((h z).1 (List.mem_cons_of_mem _ hz)) with rfl | h1
      · have := a1 z hz; omega
      · exact h1, fun hz => by
      rcases List.mem_cons.1 ((h z).2 (List.mem_cons_of_mem _ hz)) with rfl | h1
      · have := b1 z hz; omega
      · exact h1⟩)]
theorem series_eq {x y : S60} (h0 : x.f0 = y.f0) (h1 : x.f1 = y.f1) : x = y := by
  cases x; cases y; simp only at h0 h1; subst h0 h1; rfl
theorem catL_ext {a b : List S60} (ha : SrtL a) (hb : SrtL b) (na : ∀ x ∈ a, x.f1 ≠ []) (nb : ∀ x ∈ b, x.f1 ≠ []) (h : ∀ t, catL t a = catL t b) : a = b := by
  have key : ∀ {a b : List S60}, SrtL a → SrtL b → (∀ x ∈ a, x.f1 ≠ []) → (∀ t, catL t a = catL t b) → ∀ x, x ∈ a → x ∈ b := fun {a b} ha hb na h x hx => by
    have h1 := catL_one ha hx
    have h2 : catL x.f0 b ≠ [] := by rw [← h, h1]; exact na x hx
    obtain ⟨y, hy, e⟩ := catL_some h2
    have h3 := catL_one hb hy
    rw [e, ← h, h1] at h3
    rw [series_eq e.symm h3]
    exact hy
  exact SrtL_ext ha hb (fun x => ⟨key ha hb na h x, key hb ha nb (fun t => (h t).symm) x⟩)
theorem catL_putG (t u : List S65) (G : List S60) : catL t (putG G u) = catL t G := by
  unfold putG
  split
  · rfl
  · unfold insG
    rw [catL_append, catL_append]
    conv => rhs; rw [← List.take_append_drop (posB G u) G, catL_append]
    rw [show catL t [⟨u, []⟩] = [] from by rw [catL]; split <;> rfl, List.append_nil]
theorem catL_addG {t : List S65} {G : List S60} (h : SrtL G) {i : Nat} (hi : i < G.length) (ss : List S54) : catL t (addG G i ss) = catL t G ++ (if cmpL G[i].f0 t = 0 then ss else []) := by
  unfold addG
  rw [rd_getElem hi, List.set_eq_take_append_cons_drop, if_pos hi, catL_append, catL]
  have hG : catL t G = catL t (G.take i) ++ ((if cmpL G[i].f0 t = 0 then G[i].f1 else []) ++ catL t (G.drop (i + 1))) := by
    conv => lhs; rw [← List.take_append_drop i G, List.drop_eq_getElem_cons hi, catL_append, catL]
  rw [hG]
  show _ ++ ((if cmpL G[i].f0 t = 0 then G[i].f1 ++ ss else []) ++ _) = _
  split
  · rename_i he
    have hd : catL t (G.drop (i + 1)) = [] := catL_none (fun x hx => by
      obtain ⟨j, hj, rfl⟩ := List.mem_iff_getElem.1 hx
      rw [List.getElem_drop]
      have hj2 : i + 1 + j < G.length := by rw [List.length_drop] at hj; omega
      have h1 := List.pairwise_iff_getElem.1 h i (i + 1 + j) hi hj2 (by omega)
      have e := (cmpL_eq0 _ _).1 he
      rw [e] at h1
      rw [cmpL_swap]
      omega)
    rw [hd]
    simp
  · simp
theorem catL_stepG {t : List S65} {G : List S60} (h : SrtL G) (s : S60) : catL t (stepG G s) = catL t G ++ (if cmpL s.f0 t = 0 then s.f1 else []) := by
  unfold stepG
  split
  · rename_i h0
    have : s.f1 = [] := List.eq_nil_of_length_eq_zero h0
    rw [this]
    simp
  · obtain ⟨hp, hf⟩ := putG_lt G s.f0
    rw [catL_addG (SrtL_putG h _) hp, catL_putG]
    rw [rd_getElem hp] at hf
    rw [hf]
theorem catL_fold (t : List S65) : ∀ (l G : List S60), SrtL G → catL t (l.foldl stepG G) = catL t G ++ catL t l
  | [], G, _ => by rw [List.foldl_nil, catL, List.append_nil]
  | s :: l, G, h => by rw [List.foldl_cons, catL_fold t l _ (SrtL_stepG h s), catL_stepG h, catL, List.append_assoc]
theorem catL_groups (t : List S65) (l : List S60) : catL t (groupsL l) = catL t l := by
  rw [groupsL, catL_fold t l [] SrtL_nil]
  rfl
theorem catL_ris {t : List S65} {G : List S60} (h : SrtL G) : catL t (G.map ris) = risenL (catL t G) := by
  by_cases hn : ∃ x ∈ G, x.f0 = t
  · obtain ⟨x, hx, rfl⟩ := hn
    rw [catL_one h hx]
    have := catL_one (SrtL_ris h) (List.mem_map_of_mem (f := ris) hx)
    exact this
  · have h1 : ∀ x ∈ G, ¬ cmpL x.f0 t = 0 := fun x hx e => hn ⟨x, hx, (cmpL_eq0 _ _).1 e⟩
    rw [catL_none h1, catL_none (fun x hx => by
      obtain ⟨y, hy, rfl⟩ := List.mem_map.1 hx
      exact h1 y hy)]
    rfl
theorem catL_join (t : List S65) (l : List S60) : catL t (joinL l) = risenL (catL t l) := by
  rw [show joinL l = (groupsL l).map ris from rfl, catL_ris (SrtL_groups l), catL_groups]
theorem join_ne (l : List S60) : ∀ x ∈ joinL l, x.f1 ≠ [] := fun x hx => by
  obtain ⟨y, hy, rfl⟩ := List.mem_map.1 (show x ∈ (groupsL l).map ris from hx)
  have h1 := groups_pos l y hy
  exact setAll_pos _ _ (.inr (fun e => h1 (by rw [e]; rfl)))
theorem join_done {l : List S60} (h : SrtL l) (hn : ∀ x ∈ l, x.f1 ≠ []) (hs : ∀ x ∈ l, Rs x.f1) : joinL l = l :=
  catL_ext (SrtL_join _) h (join_ne _) hn (fun t => by
    rw [catL_join]
    by_cases he : ∃ x ∈ l, x.f0 = t
    · obtain ⟨x, hx, rfl⟩ := he
      rw [catL_one h hx, risenL_self (hs x hx)]
    · rw [catL_none (fun x hx e => he ⟨x, hx, (cmpL_eq0 _ _).1 e⟩)]
      rfl)
theorem join_Rs (l : List S60) : ∀ x ∈ joinL l, Rs x.f1 := fun x hx => by
  obtain ⟨y, hy, rfl⟩ := List.mem_map.1 (show x ∈ (groupsL l).map ris from hx)
  exact risenL_Rs y.f1
end Go.Proofs.YtbgmnmjokdfmlaaDoor.PA

/- bits.add's contract: a struct's block of the caller's own is changed. -/
import Derived.Test.YtpeekkpdglfbbaaDoorPA0
import Derived.Test.YtpeekkpdglfbbaaDoorGBytes
import Derived.Deep.DeepMust
namespace Go.Proofs.YtpeekkpdglfbbaaDoor.PA
open Go.RowKit Go.Proofs.YtpeekkpdglfbbaaDoor.G Go.Proofs.YtpeekkpdglfbbaaDoorW.PrintWords Go.Proofs.YtpeekkpdglfbbaaDoorW.PrintLast Go.Proofs.YtpeekkpdglfbbaaDoorW.PrintMore
set_option linter.unusedVariables false
set_option linter.unusedSimpArgs false
attribute [local go_sem] max2_int min2_int max_two min_two

abbrev bytes_Clone.f := G.bytes_Clone.f
theorem bytes_Clone.calls (A0 : Option Addr) (c0 : Nat) (l0 : List Int) (r : List Int) (w : World) (hr0 : Kd.C (Kd.int .u8) w A0 l0.length l0) (hc0 : l0.length ≤ c0) (h : bytes_Clone.f l0 = some r) :
    Calls Tryd.prog 45 #[.slice A0 l0.length c0] w fun e w' => ∃ v0_ : Value, e = .returned (v0_) ∧ Kd.R (Kd.int .u8) 5 w' w.heap.size (fun _ => True) v0_ r ∧ Below w.heap.size w w' := G.bytes_Clone.calls A0 c0 l0 r w hr0 hc0 h

theorem R_len {α : Type} {d : Kd α} {e base : Nat} {ok : Nat → Prop} {w : World} {v : Value} {xs : List α} (h : d.R e w base ok v xs) : ∃ A c, v = .slice A xs.length c := by
  obtain ⟨A, c, e⟩ := Kd.R_slice h
  exact ⟨A, c, e⟩
/-- all blocks stay but g and those of bytes -/
def KeepT (g : Nat) (w w' : World) : Prop := ∀ (q : Nat) (cs : Array Value) (t : Nat), q ≠ g → 5 ≠ t → w.heap[q]? = some (.cells cs t (0, 0)) → w'.heap[q]? = some (.cells cs t (0, 0))
/-- one round: the bits of one byte -/
def addT (N c : Int) : Int := if c < 8 - N % 8 then c else 8 - N % 8
def addP (N v c : Int) : Int := Go.bits .and .u64 (shr .u64 v (c - addT N c)) (IntKind.u64.wrap ((shl .u64 1 (addT N c)) - 1)) % 256
def addL (l : List Int) (N : Int) : List Int := if N % 8 = 0 then l ++ [0] else l
def addB (N v c : Int) (b : Int) : Int := Go.bits .or .u8 b (shl .u8 (addP N v c) (8 - N % 8 - addT N c))
def addS (l : List Int) (N v c : Int) : List Int := (addL l N).set ((addL l N).length - 1) (addB N v c ((addL l N).getD ((addL l N).length - 1) 0))
def bits_add.l0 : Nat → List Int → Int → Int → Int → Option (List Int × Int)
  | 0, _, _, _, _ => none
  | k + 1, l, N, v, c => if c ≤ 0 then some (l, N) else if 0 ≤ N ∧ N ≤ 8 * l.length ∧ 8 * l.length - N < 8 ∧ l.length < 1000000000 ∧ c ≤ 1000 then bits_add.l0 k (addS l N v c) (N + addT N c) v (c - addT N c) else none
def bits_add.f (l : List Int) (N v c : Int) : Option (List Int × Int) := bits_add.l0 70 l N v c

set_option maxHeartbeats 2000000 in
set_option maxRecDepth 100000 in
theorem bits_add.calls (B g : Nat) (w0 : World) (v0 : Value) (l0 : List Int) (a0 : Int) (a1 : Int) (a2 : Int) (r1 : List Int) (r2 : Int) (w : World) (ho : Kd.R (Kd.int .u8) 5 w B (fun _ => True) v0 l0) (hg : w.heap[g]? = some (.cells #[v0, .int .i64 a0] 44 (0, 0))) (hgB : B ≤ g) (hB : Below B w0 w) (h : bits_add.f l0 a0 a1 a2 = some (r1, r2)) :
    Calls Tryd.prog 46 #[.pointer (some ⟨g, 0, none⟩), .int .u64 a1, .int .i64 a2] w fun e w' => ∃ v' : Value, e = .returned (.tuple #[]) ∧ w'.heap[g]? = some (.cells #[v', .int .i64 r2] 44 (0, 0)) ∧ Kd.R (Kd.int .u8) 5 w' B (fun _ => True) v' r1 ∧ Below B w0 w' ∧ KeepT g w w' := by
  have HO := Aside0.mk ho
  have BK := Aside0.mk hg
  have HB := Aside0.mk hB
  have HGB := Aside0.mk hgB
  have HKT : Aside0 (KeepT g w w) := ⟨fun _ _ _ _ _ h => h⟩
  have H' : Aside0 (bits_add.l0 70 l0 a0 a1 a2 = some (r1, r2)) := ⟨h⟩
  clear ho hg hB hgB h
  go_enter Tryd.func46, Tryd.ntmps46
  go_wp2_with (fail)
  go_loopg [2] 70 (fun kq v2 w' => ∃ (l : List Int) (N c : Int) (u : Value), v2 = .int .i64 c ∧ Aside0 (bits_add.l0 kq l N a1 c = some (r1, r2)) ∧ Aside0 (kq ≤ 70) ∧ Aside0 (Kd.R (Kd.int .u8) 5 w' B (fun _ => True) u l) ∧ Aside0 (w'.heap[g]? = some (.cells #[u, .int .i64 N] 44 (0, 0))) ∧ Aside0 (Below B w0 w') ∧ Aside0 (KeepT g w w'))
  case atStart => exact ⟨l0, a0, a2, v0, rfl, H', ⟨Nat.le_refl _⟩, HO, BK, HB, HKT⟩
  case round =>
    clear H' HO BK HB HKT
    obtain ⟨l, N, c, u, rfl, HA, HK, HO, BK, HB, HKT⟩ := hrel
    cases gk with
    | zero => exact absurd HA.out (by simp [bits_add.l0])
    | succ k1 =>
      have H := HA.out
      clear HA
      simp only [bits_add.l0] at H
      by_cases hc : c ≤ 0
      · rw [if_pos hc] at H
        obtain ⟨rfl, rfl⟩ := Prod.mk.inj (Option.some.inj H)
        have hd : decide (0 < c) = false := decide_eq_false (by omega)
        clear H hc
        go_wp2_with (fail)
        refine bodyPost_end (results_none rfl _ _ _) rfl ?_
        exact ⟨u, rfl, BK.out, HO.out, HB.out, HKT.out⟩
      · rw [if_neg hc] at H
        split at H
        case isFalse => cases H
        case isTrue hg =>
        have HA := Aside0.mk H
        clear H
        obtain ⟨hN0, hN8, hN7, hl9, hc9⟩ := hg
        have hd : decide (0 < c) = true := decide_eq_true (by omega)
        have hm : Int.tmod N 8 = N % 8 := Int.tmod_eq_emod_of_nonneg hN0
        obtain ⟨m, hm'⟩ : ∃ m, N % 8 = m := ⟨_, rfl⟩
        rw [hm'] at hm
        have HM := Aside0.mk hm'
        have hz0 : wr.cell? ⟨g, 0, none⟩ = some u := blk_cell BK.out 0
        have hz1 : wr.cell? ⟨g, 1, none⟩ = some (.int .i64 N) := blk_cell BK.out 1
        have hf0 := blk_frozen BK.out 0
        have hf1 := blk_frozen BK.out 1
        have HN := Aside0.mk (And.intro hN0 (And.intro hN8 (And.intro hN7 (And.intro hl9 hc9))))
        clear hN0 hN8 hN7 hl9 hc9 hm'
        go_upto_if 16 with (fail)
        go_cut [] (fun wc => ∃ (v : Value), Aside0 (Kd.R (Kd.int .u8) 5 wc B (fun _ => True) v (addL l N)) ∧ Aside0 (wc.heap[g]? = some (.cells #[v, .int .i64 N] 44 (0, 0))) ∧ Aside0 (Below B w0 wc) ∧ Aside0 (KeepT g w wc))
        case first =>
          by_cases h0 : m = 0
          · have hb0 : (m == 0) = true := beq_iff_eq.2 h0
            have HAL : Aside0 (addL l N = l ++ [0]) := ⟨by unfold addL; rw [HM.out, if_pos h0]⟩
            clear h0
            go_wp2_with (first | ((with_reducible refine gate_builtin (b := .append) (xs := #[.tmp 21, .tmp 22]) rfl ?_); at_builtin; refine Kd.R_append (Kd.int .u8) (w0 := w0) B rfl (.tmp 21) (.tmp 22) 27 5 (.int .u8 0) 1 rfl Tryd.underlying27 infoU8 rfl (by decide) (by omega) u l 0 [.int .u8 0] (fun _ => True) (fun _ => False) rfl rfl ?aP (fun _ hk => hk.elim) ?aF ?aO ?aB ?aS ?aL ?_; (case aP => exact rfl); (case aB => exact (by repeat (first | (with_reducible first | exact HB.out | apply below_alloc | apply pw_below_drewN | apply below_drew1) | exact HB.out))); (case aF => exact (fun _ _ => trivial)); (case aO => exact (by (with_reducible repeat (first | apply Kd.R_alloc | apply Kd.R_drewN | apply Kd.R_drew)); exact HO.out)); (case aS => exact (by have h_ := HGB.out; have h2_ := blk_lt BK.out; simp; omega)); (case aL => have := HN.out; omega); intro v4 w4 ho hb hg hat; have n0_ := Aside0.mk (blk_grown (g := g) (o := .cells #[u, .int .i64 N] 44 (0, 0)) (by (with_reducible repeat (first | refine blk_drewN ?_ _ | refine blk_drew ?_ | refine blk_alloc ?_ _)); exact BK.out) hg (Kd.R_ne HO.out BK.out (by decide))); have n2_ := Aside0.mk (hb); have n3_ := Aside0.mk (ho); have n4_ : Aside0 (KeepT g w w4) := ⟨fun q cs t hq ht hh => have h_ := HKT.out q cs t hq ht hh; blk_grown (by (with_reducible repeat (first | refine blk_drewN ?_ _ | refine blk_drew ?_ | refine blk_alloc ?_ _)); exact h_) hg (Kd.R_ne HO.out h_ ht)⟩; clear BK; clear HB; clear HO; clear HKT; have HKT := n4_; clear n4_; have BK := n0_; have HB := n2_; have HO := n3_; clear n0_ n2_ n3_; clear ho hb hg hat; have hz0 := blk_cell BK.out 0; have hz1 : w4.cell? ⟨g, 1, none⟩ = some (.int .i64 N) := blk_cell BK.out 1; have hf0 := blk_frozen BK.out 0; have hf1 := blk_frozen BK.out 1; obtain ⟨A4, c4, e4⟩ := Kd.R_slice HO.out; subst e4))
            go_meet
            case rel => 
              have HO1 := HO.out
              rw [show (l ++ [(0 : Int)]).length = l.length + 1 by simp] at HO1
              refine ⟨.slice A4 (l.length + 1) c4, ⟨?_⟩, ⟨?_⟩, ⟨?_⟩, ⟨?_⟩⟩
              · rw [HAL.out]
                exact Kd.R_mono (Kd.R_far (p := ⟨g, 0, none⟩) (Kd.R_types HO1 BK.out (by decide)) (fun _ hk => hk.2) (.slice A4 (l.length + 1) c4)) (fun _ _ => trivial)
              · exact blk_put (cs := #[u, .int .i64 N]) BK.out 0 (.slice A4 (l.length + 1) c4) rfl
              · exact HB.out.setCell HGB.out _
              · exact fun q cs t hq ht hh => blk_far (p := ⟨g, 0, none⟩) (HKT.out q cs t hq ht hh) hq _
          · have hb0 : (m == 0) = false := beq_eq_false_iff_ne.2 h0
            have HAL : Aside0 (addL l N = l) := ⟨by unfold addL; rw [HM.out, if_neg h0]⟩
            clear h0
            go_wp2_with (fail)
            go_meet
            case rel => exact ⟨u, ⟨by rw [HAL.out]; exact HO.out⟩, BK, HB, HKT⟩
        case rest =>
          clear HO BK HB HKT hz0 hz1 hf0 hf1
          obtain ⟨v, HO, BK, HB, HKT⟩ := hcut
          have hpos : 0 < (addL l N).length := by have := HM.out; have := HN.out; unfold addL; split <;> simp <;> omega
          have HS : Aside0 (addS l N a1 c = (addL l N).set ((addL l N).length - 1) (addB N a1 c ((addL l N).getD ((addL l N).length - 1) 0))) := ⟨rfl⟩
          have HX : Aside0 ((addL l N).length ≤ 1000000000) := ⟨by have := HN.out; unfold addL; split <;> simp <;> omega⟩
          generalize addL l N = L at HO hpos HS HX
          obtain ⟨go, co, eo, gb, gl, cl, HGr⟩ := Kd.R_form HO.out hpos
          subst eo
          have hz0 : wc.cell? ⟨g, 0, none⟩ = some (.slice (some ⟨go, 0, none⟩) L.length co) := blk_cell BK.out 0
          have hz1 : wc.cell? ⟨g, 1, none⟩ = some (.int .i64 N) := blk_cell BK.out 1
          have hf0 := blk_frozen BK.out 0
          have hf1 := blk_frozen BK.out 1
          obtain ⟨F, hF⟩ : ∃ F, 8 - m = F := ⟨_, rfl⟩
          have hFw : IntKind.i64.wrap (8 - m) = F := by rw [i64_w, hF]; have := HM.out; exact w64 (by omega) (by omega)
          obtain ⟨T, hT⟩ : ∃ T, (if c < F then c else F) = T := ⟨_, rfl⟩
          have HT : Aside0 (addT N c = T ∧ 0 < T ∧ T ≤ F ∧ T ≤ c ∧ F ≤ 8 ∧ 8 - m = F) := ⟨by have := HM.out; unfold addT; rw [HM.out, hF]; refine ⟨hT, ?_⟩; rw [← hT]; split <;> omega⟩
          obtain ⟨Z, hZ⟩ : ∃ Z, c - T = Z := ⟨_, rfl⟩
          obtain ⟨G, hG⟩ : ∃ G, F - T = G := ⟨_, rfl⟩
          have hb := HN.out
          have hb' := HT.out
          have hm8 := HM.out
          have hZw : IntKind.i64.wrap (c - T) = Z := by rw [i64_w, hZ]; exact w64 (by omega) (by omega)
          have hGw : IntKind.i64.wrap (F - T) = G := by rw [i64_w, hG]; exact w64 (by omega) (by omega)
          have hNw : IntKind.i64.wrap (N + T) = N + T := by rw [i64_w]; exact w64 (by omega) (by omega)
          have hLw : IntKind.i64.wrap ((L.length : Int) - 1) = (L.length : Int) - 1 := by have := HX.out; rw [i64_w]; exact w64 (by omega) (by omega)
          have hZ0 := eq_true (show 0 ≤ Z by omega)
          have hT0 := eq_true (show 0 ≤ T by omega)
          have hG0 := eq_true (show 0 ≤ G by omega)
          obtain ⟨S1, hS1⟩ : ∃ S, shr .u64 a1 Z = S := ⟨_, rfl⟩
          have hS1_ : a1 / 2 ^ min Z.toNat 64 = S1 := hS1
          have hS1z := shr_small (k := .u64) hS1
          obtain ⟨S2, hS2⟩ : ∃ S, shl .u64 1 T = S := ⟨_, rfl⟩
          have hS2u : IntKind.u64.wrap (2 ^ min T.toNat 64) = S2 := by have h_ : IntKind.u64.wrap (1 * 2 ^ min T.toNat 64) = S2 := hS2; rw [Int.one_mul] at h_; exact h_
          have hS2v : T ≤ 64 → IntKind.u64.wrap (2 ^ T.toNat) = S2 := fun hle_ => by have h_ := shl_small (k := .u64) hS2 hle_; rw [Int.one_mul] at h_; exact h_
          obtain ⟨Pp, hP⟩ : ∃ Pp, Go.bits .and .u64 S1 (IntKind.u64.wrap (S2 - 1)) % 256 = Pp := ⟨_, rfl⟩
          have HP : Aside0 (addP N a1 c = Pp) := ⟨by unfold addP; rw [hb'.1, hZ, hS1, hS2, hP]⟩
          obtain ⟨S3, hS3⟩ : ∃ S, shl .u8 Pp G = S := ⟨_, rfl⟩
          have hS3_ : IntKind.u8.wrap (Pp * 2 ^ min G.toNat 8) = S3 := hS3
          have hS3z := shl_small (k := .u8) hS3
          have HBB : Aside0 (∀ b, addB N a1 c b = Go.bits .or .u8 b S3) := ⟨fun b => by unfold addB; rw [HP.out, hb'.1, hm8, hb'.2.2.2.2.2, hG, hS3]⟩
          have HZG : Aside0 (c - T = Z ∧ F - T = G) := ⟨hZ, hG⟩
          clear hF hZ hG hS1 hS2 hS3 hb hb' hm8
          go_wp2_with (fail)
          go_quiet (fail)
          go_wp2_with (fail)
          have BK2 := Aside0.mk (blk_drewN BK.out nq)
          have HO2 := Aside0.mk (Kd.R_drewN HO.out nq)
          have HB2 := Aside0.mk (pw_below_drewN HB.out nq)
          have HKT2 : Aside0 (KeepT g w (wc.drewN nq)) := ⟨fun q cs t hq ht hh => blk_drewN (HKT.out q cs t hq ht hh) nq⟩
          clear HKT BK HO HB HGr hz0 hz1 hf0 hf1 gl
          generalize wc.drewN nq = W2 at BK2 HO2 HB2 HKT2 ⊢
          have hz0 : W2.cell? ⟨g, 0, none⟩ = some (.slice (some ⟨go, 0, none⟩) L.length co) := blk_cell BK2.out 0
          have hz1 : W2.cell? ⟨g, 1, none⟩ = some (.int .i64 N) := blk_cell BK2.out 1
          have hf0 := blk_frozen BK2.out 0
          have hf1 := blk_frozen BK2.out 1
          obtain ⟨I, hI⟩ : ∃ I : Int, (L.length : Int) - 1 = I := ⟨_, rfl⟩
          have hLw' : IntKind.i64.wrap ((L.length : Int) - 1) = I := hLw.trans hI
          clear hLw
          have hI0 := eq_true (show 0 ≤ I by omega)
          have hI1 := eq_true (show I < (L.length : Int) by omega)
          have HII := Aside0.mk hI
          obtain ⟨hx0, hxf⟩ := Kd.R_celln 0 HO2.out I (by omega) (by omega)
          have HQ := Aside0.mk (Kd.R_putn HO2.out I (Go.bits .or .u8 (rd L I) S3))
          rw [show rdOf 0 L I = rd L I from rfl] at hx0
          clear hI
          go_region
          have hgo : g ≠ go := fun e => Kd.R_ne HO2.out BK2.out (by decide) (by rw [e]; rfl)
          have HO3 := Aside0.mk (Kd.R_drew HQ.out)
          have BK3 := Aside0.mk (blk_drew (blk_far (p := ⟨go, I.toNat, none⟩) BK2.out hgo (Value.int .u8 (Go.bits .or .u8 (rd L I) S3))))
          have HB3 := Aside0.mk (below_drew1 (HB2.out.setCell (p := ⟨go, I.toNat, none⟩) gb (Value.int .u8 (Go.bits .or .u8 (rd L I) S3))))
          have HKT3 : Aside0 (KeepT g w (W2.setCell ⟨go, I.toNat, none⟩ (Value.int .u8 (Go.bits .or .u8 (rd L I) S3))).drew) := ⟨fun q cs t hq ht hh => have h_ := HKT2.out q cs t hq ht hh; blk_drew (blk_far (p := ⟨go, I.toNat, none⟩) h_ (fun e => Kd.R_ne HO2.out h_ ht (by rw [e]; rfl)) _)⟩
          clear hz0 hz1 hf0 hf1 hx0 hxf HQ HO2 BK2 HB2 HKT2
          generalize (W2.setCell ⟨go, I.toNat, none⟩ (Value.int .u8 (Go.bits .or .u8 (rd L I) S3))).drew = W3 at HO3 BK3 HB3 HKT3 ⊢
          have hz1 : W3.cell? ⟨g, 1, none⟩ = some (.int .i64 N) := blk_cell BK3.out 1
          have hf1 := blk_frozen BK3.out 1
          go_wp2_with (fail)
          go_roundg k1
          case measure => have := HK.out; omega
          case rel =>
            have ht := HT.out.1
            refine ⟨L.set I.toNat (Go.bits .or .u8 (rd L I) S3), N + T, c - T, .slice (some ⟨go, 0, none⟩) L.length co, by rw [HZG.out.1], ⟨?_⟩, ⟨by have := HK.out; omega⟩, ⟨?_⟩, ⟨?_⟩, ⟨?_⟩, ⟨?_⟩⟩
            · have h_ := HA.out
              rw [ht, HS.out, HBB.out] at h_
              have e1 : I.toNat = L.length - 1 := by have := HII.out; omega
              rw [show rd L I = L.getD (L.length - 1) 0 by unfold rd; rw [e1], e1]
              exact h_
            · exact Kd.R_mono (Kd.R_far (p := ⟨g, 1, none⟩) (Kd.R_types HO3.out BK3.out (by decide)) (fun _ hk => hk.2) (.int .i64 (N + T))) (fun _ _ => trivial)
            · exact blk_put (cs := #[.slice (some ⟨go, 0, none⟩) L.length co, .int .i64 N]) BK3.out 1 (.int .i64 (N + T)) rfl
            · exact HB3.out.setCell HGB.out _
            · exact fun q cs t hq ht hh => blk_far (p := ⟨g, 1, none⟩) (HKT3.out q cs t hq ht hh) hq _
end Go.Proofs.YtpeekkpdglfbbaaDoor.PA

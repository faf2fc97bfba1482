/- slices.IndexFunc over footers, with the closure of PlanEnds: the place of the first one whose number is the captured list's first. -/
import Derived.Test.YthjfffgddegmoaaPA0
import Derived.Test.YthjfffgddegmoaaPMerge
import Derived.Deep.DeepMust
namespace Go.Proofs.Ythjfffgddegmoaa.PA
open Go.RowKit Go.Proofs.Ythjfffgddegmoaa.G Go.Proofs.YthjfffgddegmoaaW.PrintWords Go.Proofs.YthjfffgddegmoaaW.PrintLast Go.Proofs.YthjfffgddegmoaaW.PrintMore
set_option linter.unusedVariables false
set_option linter.unusedSimpArgs false

/-- the place of the first whose number is x, counted from k; -1 if there is none -/
def idxF (x : Int) : List S30 → Nat → Int
  | [], _ => -1
  | a :: r, k => if a.f0 = x then (k : Int) else idxF x r (k + 1)
theorem idxF_step (x : Int) (l : List S30) (k : Nat) (hk : k < l.length) : idxF x (l.drop k) k = if (rd_T30 l (k : Int)).f0 = x then (k : Int) else idxF x (l.drop (k + 1)) (k + 1) := by
  rw [rd_nat l k hk, List.drop_eq_getElem_cons hk]
  rfl
theorem idxF_end (x : Int) (l : List S30) (k : Nat) (hk : l.length ≤ k) : idxF x (l.drop k) k = -1 := by
  rw [List.drop_eq_nil_of_le hk]
  rfl
set_option maxHeartbeats 2000000 in
set_option maxRecDepth 100000 in
theorem idxFunc.calls (A0 A1 : Option Addr) (c0 c1 : Nat) (l0 : List (S30)) (x : Int) (l1 : List Int) (g : Nat) (w : World) (hr0 : Kd.C k30 w A0 l0.length l0) (hlen : l0.length ≤ 1000000)
    (hg : w.heap[g]? = some (.cells #[.slice A1 (x :: l1).length c1] 27 (0, 0))) (hr1 : Kd.C (Kd.int .i64) w A1 (x :: l1).length (x :: l1)) :
    Calls Try.prog 25 #[.slice A0 l0.length c0, .func (.func 26) #[] #[.pointer (some ⟨g, 0, none⟩)]] w fun e w' => e = .returned (.int .i64 (idxF x l0 0)) ∧ Below w.heap.size w w' := by
  have HR := Aside0.mk hr0
  have HR1 := Aside0.mk hr1
  have HG := Aside0.mk hg
  clear hr0 hr1 hg
  go_enter Try.func25, Try.ntmps25
  go_wp2
  go_loopw [8] (fun i wr => ∃ k : Nat, k ≤ l0.length ∧ i = .int .i64 k ∧ Aside0 (idxF x l0 0 = idxF x (l0.drop k) k) ∧ Aside0 (Below w.heap.size w wr)) (fun i _ => l0.length - (intOf i).toNat)
  case atStart => exact ⟨0, Nat.zero_le _, rfl, ⟨rfl⟩, ⟨Below.refl _ _⟩⟩
  case round =>
    obtain ⟨k, hk, rfl, HE, HB⟩ := hrel
    by_cases hlt : k < l0.length
    · have hC := Kd.C_below HR.out HB.out
      obtain ⟨ad, A7, c7, rfl, h0, h1, h2, h3, h4, h5, h6, h7, _, _⟩ := at_T30 hC (k : Int) (by omega) (by omega)
      rw [Int.toNat_natCast] at h0 h1 h2 h3 h4 h5 h6 h7
      have hgr := (HB.out.block g (blk_lt HG.out)).trans HG.out
      have hcg := blk_cell hgr 0
      obtain ⟨bd, cb, rfl, _, hKb, hcb⟩ := Kd.C_get (Kd.C_below HR1.out HB.out) (0 : Int) 0 (by omega) (by simp)
      have hb0 : wr.cell? bd = some (.int .i64 x) := hcb 0 (.int .i64 x) (by rw [show cb = [Value.int .i64 x] from hKb]; rfl)
      clear hcb hKb
      have hcg1 := fun o => cell_alloc_old o hcg
      have hb01 := fun o => cell_alloc_old o hb0
      have HST := Aside0.mk (idxF_step x l0 k hlt)
      clear hC hgr
      generalize rd_T30 l0 (k : Int) = y at h0 h1 h2 h3 h4 h5 h6 h7 HST
      by_cases hq : y.f0 = x
      · have hd : (y.f0 == x) = true := beq_iff_eq.2 hq
        have HN : Aside0 (idxF x l0 0 = (k : Int)) := ⟨by rw [HE.out, HST.out, if_pos hq]⟩
        clear hq
        go_wp2_with (first | go_in)
        go_region
        all_goals (go_wp2_with (first | go_in))
        all_goals (go_ret)
        all_goals (refine ⟨by rw [HN.out]; rfl, ?_⟩)
        all_goals (repeat (first | exact HB.out | apply below_alloc | apply below_drew1 | apply pw_below_drewN))
      · have hd : (y.f0 == x) = false := beq_eq_false_iff_ne.2 hq
        have HN : Aside0 (idxF x l0 0 = idxF x (l0.drop (k + 1)) (k + 1)) := ⟨by rw [HE.out, HST.out, if_neg hq]⟩
        clear hq
        go_wp2_with (first | go_in)
        go_region
        all_goals (go_wp2_with (first | go_in))
        all_goals (go_roundw)
        case rel =>
          refine ⟨k + 1, by omega, by go_num, HN, ⟨?_⟩⟩
          all_goals (repeat (first | exact HB.out | apply below_alloc | apply below_drew1 | apply pw_below_drewN))
        case measure => simp [intOf]; omega
    · obtain rfl : k = l0.length := by omega
      go_wp2
      go_ret
      exact ⟨by rw [HE.out, idxF_end x l0 _ (Nat.le_refl _)]; rfl, HB.out⟩
end Go.Proofs.Ythjfffgddegmoaa.PA

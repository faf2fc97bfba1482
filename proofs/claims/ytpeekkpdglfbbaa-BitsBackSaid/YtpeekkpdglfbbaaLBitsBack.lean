/- The plain law BitsBack, and its walk. -/
import Derived.Test.YtpeekkpdglfbbaaGBitK
import Derived.Test.YtpeekkpdglfbbaaPAf7
set_option linter.unusedVariables false
namespace Go.Proofs.Ytpeekkpdglfbbaa.G.BitsBack
set_option linter.unusedSimpArgs false
attribute [local instance 10] Classical.propDecidable
open Go.RowKit Go.Proofs.Ytpeekkpdglfbbaa.G Go.Proofs.Ytpeekkpdglfbbaa.PA Go.Proofs.YtpeekkpdglfbbaaW.PrintWords Go.Proofs.YtpeekkpdglfbbaaW.PrintLast Go.Proofs.YtpeekkpdglfbbaaW.PrintMore
theorem awake_eq : dryrotlaw02_awake.f = some true := by decide +kernel
theorem equal_self (l : List Int) : PA.bytes_Equal.f l l = some true := by unfold PA.bytes_Equal.f; simp
theorem pure (l : List Int) (N n c v : Int) (hl : ∀ x ∈ l, (Lit.int .u8 x).wf = true) (hN : (Lit.int .i64 N).wf = true) (hn : (Lit.int .u64 n).wf = true) (hv : (Lit.int .i64 v).wf = true) : ∃ k, dryrotlaw02_BitsBack.f k l N n c v = some true := by
  refine ⟨100001, ?_⟩
  unfold dryrotlaw02_BitsBack.f
  have hshort : dryrotlaw02_short.f l N = some (decide ((l.length : Int) ≤ 200)) := rfl
  rw [hshort, Option.bind_some]
  by_cases h : (l.length : Int) ≤ 200
  · have b := i64_bd hN
    have bn := u64_bd hn
    have ok := okL_wf hl
    rw [if_pos (decide_eq_true h), can_eq ok (by omega) N b.1 b.2, Option.bind_some, dryrotlaw02_BitsBack.j0]
    by_cases hV : 0 ≤ N ∧ OkX l N.toNat
    · rw [decide_eq_true hV, if_neg (by decide)]
      obtain ⟨q, rfl⟩ := Int.eq_ofNat_of_zero_le hV.1
      obtain ⟨x, rfl⟩ := Int.eq_ofNat_of_zero_le bn.1
      rw [Int.toNat_natCast] at hV
      have hq := hV.2.le
      obtain ⟨u, hu, hu64⟩ := u64_of_int c
      have hc : wrap64 (Int.tmod (IntKind.u64.wrap c) 65) = ((u % 65 : Nat) : Int) := by
        rw [hu, show Int.tmod (u : Int) 65 = ((u % 65 : Nat) : Int) from rfl]
        exact w64n (by omega)
      rw [hc]
      obtain ⟨d, hd⟩ : ∃ d, u % 65 = d := ⟨_, rfl⟩
      have hd64 : d ≤ 64 := by omega
      rw [hd]
      clear hc hu hu64
      obtain ⟨l1, a1, b1, c1⟩ := put_ok hV.2 (by omega) x d (by omega) hd64
      have hn1 := b1.near
      obtain ⟨l2, m, a2, hm, b2, c2⟩ := putInt_ok b1 (by omega) v
      have hib : (intBits v).length ≤ 70 := by
        unfold intBits
        have e1 := classN_range v
        have e2 := width_le (classN v)
        simp
        split <;> simp <;> omega
      have hn2 := b2.near
      have hw : win l2 q d = low x d := win_part (X := Bs l q) (Y := low x d) (Z := intBits v) (by rw [c2, c1]) (by simp) (by simp)
      have hH : headI l2 m 4 (q + d) = (v, (m : Int), 0) := by
        have := head_back (l := l2) (m := m) (B := Bs l1 (q + d)) v hv c2
        rwa [Bs_length] at this
      rw [a1, Option.bind_some]
      simp only
      rw [a2, Option.bind_some]
      simp only
      rw [btakeN b2 (by omega) q d (by omega) hd64 _ (by decide), if_neg (by omega), Option.bind_some, takeInt_eq b2.bytes (by omega) m _ (by omega) (by omega) _ (by decide), Option.bind_some, hw, num_low]
      have hT : takeI l2 (m : Int) ((q + d : Nat) : Int) = (v, (m : Int), 0) := by
        unfold takeI
        rw [Int.toNat_natCast, Int.toNat_natCast, hH, if_neg]
        intro h'
        rcases h' with h' | h' | h'
        · exact h' ⟨by omega, b2⟩
        · omega
        · omega
      rw [hT]
      simp only [if_true]
      rw [show wrap64 ((q : Int) + (d : Int)) = ((q + d : Nat) : Int) from w64add (by omega), if_pos rfl]
      by_cases h0 : (d : Int) = 0
      · rw [if_pos h0]
        simp
      · rw [if_neg h0, show wrap64 (64 - (d : Int)) = ((64 - d : Nat) : Int) from w64sub (a := 64) hd64 (by decide), if_pos (by omega), shift_back x d (by omega) (by omega) hd64, if_pos rfl]
        simp
    · rw [decide_eq_false hV, if_pos (by rfl), hshort, Option.bind_some, if_pos (decide_eq_true h)]
      unfold dryrotref02_Can.f
      rw [list_eq ok (by omega) N b.1 b.2 _ (by omega), if_neg hV, awake_eq]
      rfl
  · rw [if_neg (by simpa using h), dryrotlaw02_BitsBack.j0, if_pos rfl, hshort, Option.bind_some, if_neg (by simpa using h), awake_eq]
    rfl
theorem walk (A0 : Option Addr) (c0 : Nat) (l0 : List Int) (N n c v : Int) (w : World) (hr : Kd.C (Kd.int .u8) w A0 l0.length l0) (hc : l0.length ≤ c0) (hw : ∀ x ∈ l0, (Lit.int .u8 x).wf = true) (hN : (Lit.int .i64 N).wf = true) (hn : (Lit.int .u64 n).wf = true) (hcn : (Lit.int .i64 c).wf = true) (hv : (Lit.int .i64 v).wf = true) :
    Calls Try.prog 7 #[.agg #[.slice A0 l0.length c0, .int .i64 N], .int .u64 n, .int .i64 c, .int .i64 v] w fun e w' => e = .returned (.bool true) ∧ Below w.heap.size w w' := by
  obtain ⟨k, hk⟩ := pure l0 N n c v hw hN hn hv
  exact dryrotlaw02_BitsBack.calls k A0 c0 l0 N n c v true w hr hc hk
end Go.Proofs.Ytpeekkpdglfbbaa.G.BitsBack

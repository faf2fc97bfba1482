/- The plain law BitsPut, and its walk. -/
import Derived.Test.YtpeekkpdglfbbaaGBitI
import Derived.Test.YtpeekkpdglfbbaaPAf3
set_option linter.unusedVariables false
namespace Go.Proofs.Ytpeekkpdglfbbaa.G.BitsPut
set_option linter.unusedSimpArgs false
attribute [local instance 10] Classical.propDecidable
open Go.RowKit Go.Proofs.Ytpeekkpdglfbbaa.G Go.Proofs.Ytpeekkpdglfbbaa.PA Go.Proofs.YtpeekkpdglfbbaaW.PrintWords Go.Proofs.YtpeekkpdglfbbaaW.PrintLast Go.Proofs.YtpeekkpdglfbbaaW.PrintMore
theorem awake_eq : dryrotlaw02_awake.f = some true := by decide +kernel
theorem equal_self (l : List Int) : PA.bytes_Equal.f l l = some true := by unfold PA.bytes_Equal.f; simp
theorem pure (l : List Int) (N n c : Int) (hl : ∀ x ∈ l, (Lit.int .u8 x).wf = true) (hN : (Lit.int .i64 N).wf = true) (hn : (Lit.int .u64 n).wf = true) : ∃ k, dryrotlaw02_BitsPut.f k l N n c = some true := by
  refine ⟨100001, ?_⟩
  unfold dryrotlaw02_BitsPut.f dryrotlaw02_short.f
  rw [Option.bind_some, awake_eq]
  by_cases h : (l.length : Int) ≤ 200
  · have b := i64_bd hN
    have bn := u64_bd hn
    have ok := okL_wf hl
    have hcl : PA.bytes_Clone.f l = some l := by unfold PA.bytes_Clone.f G.bytes_Clone.f; rw [if_pos (by omega)]
    have hrc : dryrotref02_Can.f 100001 l N = some (decide (0 ≤ N ∧ OkX l N.toNat)) := by
      unfold dryrotref02_Can.f
      rw [list_eq ok (by omega) N b.1 b.2 _ (by omega)]
      by_cases hV : 0 ≤ N ∧ OkX l N.toNat
      · rw [if_pos hV, decide_eq_true hV]; rfl
      · rw [if_neg hV, decide_eq_false hV]; rfl
    have hput : ∃ r : List Int × Int × Int, bits_Put.f l N n c = some r ∧ dryrotref02_Put.f 100001 l N n c = some r := by
      by_cases hV : 0 ≤ N ∧ OkX l N.toNat
      · by_cases hc : 0 ≤ c ∧ c ≤ 64
        · obtain ⟨q, rfl⟩ := Int.eq_ofNat_of_zero_le hV.1
          obtain ⟨x, rfl⟩ := Int.eq_ofNat_of_zero_le bn.1
          obtain ⟨d, rfl⟩ := Int.eq_ofNat_of_zero_le hc.1
          rw [Int.toNat_natCast] at hV
          obtain ⟨l1, a1, b1, c1⟩ := put_ok hV.2 (by omega) x d (by omega) (by omega)
          obtain ⟨l2, a2, b2, c2⟩ := rput_ok hV.2 (by omega) x d (by omega) (by omega) 100001 (by omega)
          have e : l1 = l2 := OkX.ext b1 b2 (by rw [c1, c2])
          subst e
          exact ⟨_, a1, a2⟩
        · refine ⟨([], 0, 1), ?_, ?_⟩
          · unfold bits_Put.f
            rw [if_pos (by omega), can_eq ok (by omega) N b.1 b.2, decide_eq_true hV, Option.bind_some, if_pos rfl]
            by_cases c0 : c < 0
            · rw [if_pos c0]
            · rw [if_neg c0, if_pos (by omega)]
          · unfold dryrotref02_Put.f
            rw [list_eq ok (by omega) N b.1 b.2 _ (by omega), if_pos hV, Option.bind_some]
            simp only [if_true]
            by_cases c0 : c < 0
            · rw [if_pos c0, dryrotref02_Put.j0, if_pos rfl]
            · rw [if_neg c0, decide_eq_true (by omega), dryrotref02_Put.j0, if_pos rfl]
      · refine ⟨([], 0, 1), ?_, ?_⟩
        · unfold bits_Put.f
          rw [if_pos (by omega), can_eq ok (by omega) N b.1 b.2, decide_eq_false hV, Option.bind_some, if_neg (by decide)]
        · unfold dryrotref02_Put.f
          rw [list_eq ok (by omega) N b.1 b.2 _ (by omega), if_neg hV, Option.bind_some]
          simp only [Bool.false_eq_true, if_false]
          rw [dryrotref02_Put.j0, if_pos rfl]
    obtain ⟨r, h1, h2⟩ := hput
    rw [if_pos (decide_eq_true h), hcl, Option.bind_some, h1, h2, hrc, can_eq ok (by omega) N b.1 b.2]
    simp [dryrotlaw02_same.f, equal_self]
  · rw [if_neg (by simpa using h)]
    rfl
theorem walk (A0 : Option Addr) (c0 : Nat) (l0 : List Int) (N n c : Int) (w : World) (hr : Kd.C (Kd.int .u8) w A0 l0.length l0) (hc : l0.length ≤ c0) (hw : ∀ x ∈ l0, (Lit.int .u8 x).wf = true) (hN : (Lit.int .i64 N).wf = true) (hn : (Lit.int .u64 n).wf = true) (hcn : (Lit.int .i64 c).wf = true) :
    Calls Try.prog 3 #[.agg #[.slice A0 l0.length c0, .int .i64 N], .int .u64 n, .int .i64 c] w fun e w' => e = .returned (.bool true) ∧ Below w.heap.size w w' := by
  obtain ⟨k, hk⟩ := pure l0 N n c hw hN hn
  exact dryrotlaw02_BitsPut.calls k A0 c0 l0 N n c w hr hc hk
end Go.Proofs.Ytpeekkpdglfbbaa.G.BitsPut

/- The plain law BitsInts, and its walk. -/
import Derived.Test.YtpeekkpdglfbbaaGBitI
import Derived.Test.YtpeekkpdglfbbaaPAf5
set_option linter.unusedVariables false
namespace Go.Proofs.Ytpeekkpdglfbbaa.G.BitsInts
set_option linter.unusedSimpArgs false
attribute [local instance 10] Classical.propDecidable
open Go.RowKit Go.Proofs.Ytpeekkpdglfbbaa.G Go.Proofs.Ytpeekkpdglfbbaa.PA Go.Proofs.YtpeekkpdglfbbaaW.PrintWords Go.Proofs.YtpeekkpdglfbbaaW.PrintLast Go.Proofs.YtpeekkpdglfbbaaW.PrintMore
theorem awake_eq : dryrotlaw02_awake.f = some true := by decide +kernel
theorem equal_self (l : List Int) : PA.bytes_Equal.f l l = some true := by unfold PA.bytes_Equal.f; simp
theorem pure (l : List Int) (N v p : Int) (hl : ∀ x ∈ l, (Lit.int .u8 x).wf = true) (hN : (Lit.int .i64 N).wf = true) : ∃ k, dryrotlaw02_BitsInts.f k l N v p = some true := by
  refine ⟨100000, ?_⟩
  unfold dryrotlaw02_BitsInts.f dryrotlaw02_short.f
  rw [Option.bind_some, awake_eq]
  by_cases h : (l.length : Int) ≤ 200
  · have b := i64_bd hN
    have ok := okL_wf hl
    rw [if_pos (decide_eq_true h), takeInt_eq ok (by omega) N p b.1 b.2 _ (by decide), rtakeInt_eq ok (by omega) N p b.1 b.2 _ (by omega)]
    by_cases hV : 0 ≤ N ∧ OkX l N.toNat
    · obtain ⟨n, rfl⟩ := Int.eq_ofNat_of_zero_le hV.1
      rw [Int.toNat_natCast] at hV
      obtain ⟨l1, m1, a1, b1, c1, d1⟩ := putInt_ok hV.2 (by omega) v
      obtain ⟨l2, m2, a2, b2, c2, d2⟩ := rputInt_ok hV.2 (by omega) v 100000 (by omega)
      have hm : m1 = m2 := by omega
      subst hm
      have hl : l1 = l2 := OkX.ext c1 c2 (by rw [d1, d2])
      subst hl
      rw [a1, a2]
      simp [dryrotlaw02_same.f, equal_self]
    · rw [putInt_bad ok (by omega) N v b.1 b.2 hV, rputInt_bad ok (by omega) N v b.1 b.2 hV _ (by omega)]
      simp [dryrotlaw02_same.f, equal_self]
  · rw [if_neg (by simpa using h)]
    rfl
theorem walk (A0 : Option Addr) (c0 : Nat) (l0 : List Int) (N v p : Int) (w : World) (hr : Kd.C (Kd.int .u8) w A0 l0.length l0) (hc : l0.length ≤ c0) (hw : ∀ x ∈ l0, (Lit.int .u8 x).wf = true) (hN : (Lit.int .i64 N).wf = true) (hv : (Lit.int .i64 v).wf = true) (hp : (Lit.int .i64 p).wf = true) :
    Calls Try.prog 5 #[.agg #[.slice A0 l0.length c0, .int .i64 N], .int .i64 v, .int .i64 p] w fun e w' => e = .returned (.bool true) ∧ Below w.heap.size w w' := by
  obtain ⟨k, hk⟩ := pure l0 N v p hw hN
  exact dryrotlaw02_BitsInts.calls k A0 c0 l0 N v p true w hr hc hk
end Go.Proofs.Ytpeekkpdglfbbaa.G.BitsInts

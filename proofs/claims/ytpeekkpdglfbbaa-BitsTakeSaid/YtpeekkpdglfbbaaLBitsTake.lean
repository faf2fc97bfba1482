/- The plain law BitsTake. -/
import Derived.Test.YtpeekkpdglfbbaaGBitT
import Derived.Test.YtpeekkpdglfbbaaPAf4
namespace Go.Proofs.Ytpeekkpdglfbbaa.PA
open Go.RowKit Go.Proofs.Ytpeekkpdglfbbaa.G Go.Proofs.YtpeekkpdglfbbaaW.PrintWords Go.Proofs.YtpeekkpdglfbbaaW.PrintLast Go.Proofs.YtpeekkpdglfbbaaW.PrintMore
set_option linter.unusedVariables false

theorem awake_eq : dryrotlaw02_awake.f = some true := by decide +kernel
theorem okL_wf {l : List Int} (h : ∀ x ∈ l, (Lit.int .u8 x).wf = true) : OkL l := okB_iff.1 (okB_wf h)
theorem BitsTake_pure (l : List Int) (N p c : Int) (hl : ∀ x ∈ l, (Lit.int .u8 x).wf = true) (hN : (Lit.int .i64 N).wf = true) : ∃ k, dryrotlaw02_BitsTake.f k l N p c = some true := by
  refine ⟨100000, ?_⟩
  unfold dryrotlaw02_BitsTake.f dryrotlaw02_short.f
  rw [Option.bind_some, awake_eq]
  by_cases h : (l.length : Int) ≤ 200
  · have b := i64_bd hN
    rw [if_pos (decide_eq_true h), btake_eq (okL_wf hl) (by omega) N p c b.1 b.2 _ (by decide), rTake_eq (okL_wf hl) (by omega) N p c b.1 b.2 _ (by omega)]
    simp
  · rw [if_neg (by simpa using h)]
    rfl
end Go.Proofs.Ytpeekkpdglfbbaa.PA
namespace Go.Proofs.Ytpeekkpdglfbbaa.G.BitsTake
set_option linter.unusedVariables false
open Go.RowKit Go.Proofs.Ytpeekkpdglfbbaa.G Go.Proofs.Ytpeekkpdglfbbaa.PA Go.Proofs.YtpeekkpdglfbbaaW.PrintWords Go.Proofs.YtpeekkpdglfbbaaW.PrintLast Go.Proofs.YtpeekkpdglfbbaaW.PrintMore
theorem walk (A0 : Option Addr) (c0 : Nat) (l0 : List Int) (N p c : Int) (w : World) (hr : Kd.C (Kd.int .u8) w A0 l0.length l0) (hc : l0.length ≤ c0) (hw : ∀ x ∈ l0, (Lit.int .u8 x).wf = true) (hN : (Lit.int .i64 N).wf = true) (hp : (Lit.int .i64 p).wf = true) (hcn : (Lit.int .i64 c).wf = true) :
    Calls Try.prog 4 #[.agg #[.slice A0 l0.length c0, .int .i64 N], .int .i64 p, .int .i64 c] w fun e w' => e = .returned (.bool true) ∧ Below w.heap.size w w' := by
  obtain ⟨k, hk⟩ := BitsTake_pure l0 N p c hw hN
  exact dryrotlaw02_BitsTake.calls k A0 c0 l0 N p c true w hr hc hk
end Go.Proofs.Ytpeekkpdglfbbaa.G.BitsTake

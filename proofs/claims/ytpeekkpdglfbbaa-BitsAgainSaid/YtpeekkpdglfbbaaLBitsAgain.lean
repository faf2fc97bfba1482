/- The walk of BitsAgain. -/
import Derived.Test.YtpeekkpdglfbbaaPureBitsAgain
set_option linter.unusedVariables false
namespace Go.Proofs.Ytpeekkpdglfbbaa.G.BitsAgain
open Go.RowKit Go.Proofs.Ytpeekkpdglfbbaa.G Go.Proofs.Ytpeekkpdglfbbaa.PA Go.Proofs.YtpeekkpdglfbbaaW.PrintWords Go.Proofs.YtpeekkpdglfbbaaW.PrintLast Go.Proofs.YtpeekkpdglfbbaaW.PrintMore
theorem walk (A0 : Option Addr) (c0 : Nat) (l0 : List Int) (p : Int) (w : World) (hr : Kd.C (Kd.int .u8) w A0 l0.length l0) (hc : l0.length ≤ c0) (hw : ∀ x ∈ l0, (Lit.int .u8 x).wf = true) (hs : l0.length * 1 ≤ 140737488351232) (hp : (Lit.int .i64 p).wf = true) :
    Calls Try.prog 6 #[.slice A0 l0.length c0, .int .i64 p] w fun e w' => e = .returned (.bool true) ∧ Below w.heap.size w w' := by
  obtain ⟨k, hk⟩ := Pure.BitsAgain l0 p (by unfold maxLen; omega) hs hw hp
  exact dryrotlaw02_BitsAgain.calls k A0 c0 l0 p true w hr hc hk
end Go.Proofs.Ytpeekkpdglfbbaa.G.BitsAgain

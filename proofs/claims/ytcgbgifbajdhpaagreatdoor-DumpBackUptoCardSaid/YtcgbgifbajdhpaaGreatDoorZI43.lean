/- Of the law rZIQDumpBack. -/
import Derived.Test.YtcgbgifbajdhpaaGreatDoorZI34
import Derived.Test.YtcgbgifbajdhpaaGreatDoorZI35
set_option linter.unusedVariables false
set_option linter.unusedSimpArgs false
set_option maxHeartbeats 200000
set_option maxRecDepth 512
namespace Go.Proofs.Y.PA
open Go.RowKit Go.Proofs.Y.G Go.Proofs.YW.o7 Go.Proofs.YW.pJ Go.Proofs.YW.pO
theorem UR (b:List Int)(hlen:b.length≤2500):(∀ x∈(xA b).1,Dn x)∧(xA b).1.length≤20000:=by
 have h:=Cq (b.drop 2) (8*(b.length-2)) (by omega) (yA 0 (b.take 2));unfold xA;split
 ·exact⟨fun x hx=>absurd hx (by simp),by simp⟩
 ·split
  ·exact⟨h.1,bM h.2.1 (by omega)⟩
  ·exact⟨fun x hx=>absurd hx (by simp),by simp⟩
end Go.Proofs.Y.PA

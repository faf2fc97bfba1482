/-
  DERIVED. GIVEN WITH THE SEED: THE CARDS: each row of YtmaoleabfmokpaaDoorRows.lean that lists a variable, with what it lists TIED to the program's text (the seventh form; the later family's looks); each row that meets fmt, with fmt's text TOLD by the authors' own Lean function (tested against real Go, not proved from fmt's source: count such statements apart). THE CARD IS WHAT COUNTS. Prove the row's statement (the work); the ties are given (YtmaoleabfmokpaaDoorTie.lean); close each card by the builder's one call (the guide's Derived/Test/ToyasCard.lean, 'card_holds'). Laid BY PROGRAM, IN A SANDBOX (cutbox-door.mjs). By AI agents, Wed Nov 11 2026. No macro, syntax, notation, axiom, sorry.
-/
import Derived.Test.YtmaoleabfmokpaaDoorRows
import GoSem.ClaimSeven
namespace Go.Proofs.YtmaoleabfmokpaaDoor
namespace Rows

/-- THE TIED CARD OF 'dryrotlaw01.CrcMore'. -/
def crcMoreCard : Claim7 := { stood := { row := crcMoreRow, standIns := [], harness := (true, "23f32e32770b94e574216db6c6e3949d5f0b022a7a6049c55b98690e34cba51f"), looks := false }, kinds := [], alts := [], laidByText := true, laidKinds := [.data], laidTests := true, laidLooks := .later }
def CrcMoreCardSaid : Prop := Claim7.holds Tryd.pinned (.plain (OpenSpec.ofChange crcMoreSpec)) crcMoreCard

/-- THE TIED CARD OF 'dryrotlaw01.CrcTells'. -/
def crcTellsCard : Claim7 := { stood := { row := crcTellsRow, standIns := [], harness := (true, "23f32e32770b94e574216db6c6e3949d5f0b022a7a6049c55b98690e34cba51f"), looks := false }, kinds := [], alts := [], laidByText := true, laidKinds := [.data], laidTests := true, laidLooks := .later }
def CrcTellsCardSaid : Prop := Claim7.holds Tryd.pinned (.plain (OpenSpec.ofChange crcTellsSpec)) crcTellsCard

/-- THE TIED CARD OF 'dryrotlaw01.CrcSums'. -/
def crcSumsCard : Claim7 := { stood := { row := crcSumsRow, standIns := [], harness := (true, "23f32e32770b94e574216db6c6e3949d5f0b022a7a6049c55b98690e34cba51f"), looks := false }, kinds := [], alts := [], laidByText := true, laidKinds := [.data], laidTests := true, laidLooks := .later }
def CrcSumsCardSaid : Prop := Claim7.holds Tryd.pinned (.plain (OpenSpec.ofChange crcSumsSpec)) crcSumsCard

/-- THE TIED CARD OF 'dryrotlaw01.CrcNumbers'. -/
def crcNumbersCard : Claim7 := { stood := { row := crcNumbersRow, standIns := [], harness := (true, "23f32e32770b94e574216db6c6e3949d5f0b022a7a6049c55b98690e34cba51f"), looks := false }, kinds := [], alts := [], laidByText := true, laidKinds := [.data], laidTests := true, laidLooks := .later }
def CrcNumbersCardSaid : Prop := Claim7.holds Tryd.pinned (.plain (OpenSpec.ofChange crcNumbersSpec)) crcNumbersCard

/-- THE TIED CARD OF 'dryrotlaw04.ExtentTurned'. -/
def extentTurnedCard : Claim7 := { stood := { row := extentTurnedRow, standIns := [], harness := (true, "23f32e32770b94e574216db6c6e3949d5f0b022a7a6049c55b98690e34cba51f"), looks := false }, kinds := [], alts := [], laidByText := true, laidKinds := [.data], laidTests := true, laidLooks := .later }
def ExtentTurnedCardSaid : Prop := Claim7.holds Tryd.pinned (.plain (OpenSpec.ofChange extentTurnedSpec)) extentTurnedCard

/-- THE TIED CARD OF 'dryrotlaw04.ExtentBack'. -/
def extentBackCard : Claim7 := { stood := { row := extentBackRow, standIns := [], harness := (true, "23f32e32770b94e574216db6c6e3949d5f0b022a7a6049c55b98690e34cba51f"), looks := false }, kinds := [], alts := [], laidByText := true, laidKinds := [.data], laidTests := true, laidLooks := .later }
def ExtentBackCardSaid : Prop := Claim7.holds Tryd.pinned (.plain (OpenSpec.ofChange extentBackSpec)) extentBackCard

/-- THE TIED CARD OF 'dryrotlaw04.ExtentOnce'. -/
def extentOnceCard : Claim7 := { stood := { row := extentOnceRow, standIns := [], harness := (true, "23f32e32770b94e574216db6c6e3949d5f0b022a7a6049c55b98690e34cba51f"), looks := false }, kinds := [], alts := [], laidByText := true, laidKinds := [.data], laidTests := true, laidLooks := .later }
def ExtentOnceCardSaid : Prop := Claim7.holds Tryd.pinned (.plain (OpenSpec.ofChange extentOnceSpec)) extentOnceCard

/-- THE TIED CARD OF 'dryrotlaw04.ExtentFrames'. -/
def extentFramesCard : Claim7 := { stood := { row := extentFramesRow, standIns := [], harness := (true, "23f32e32770b94e574216db6c6e3949d5f0b022a7a6049c55b98690e34cba51f"), looks := false }, kinds := [], alts := [], laidByText := true, laidKinds := [.data], laidTests := true, laidLooks := .later }
def ExtentFramesCardSaid : Prop := Claim7.holds Tryd.pinned (.plain (OpenSpec.ofChange extentFramesSpec)) extentFramesCard

/-- THE TIED CARD OF 'dryrotlaw04.ExtentOpens'. -/
def extentOpensCard : Claim7 := { stood := { row := extentOpensRow, standIns := [], harness := (true, "23f32e32770b94e574216db6c6e3949d5f0b022a7a6049c55b98690e34cba51f"), looks := false }, kinds := [], alts := [], laidByText := true, laidKinds := [.data], laidTests := true, laidLooks := .later }
def ExtentOpensCardSaid : Prop := Claim7.holds Tryd.pinned (.plain (OpenSpec.ofChange extentOpensSpec)) extentOpensCard

/-- THE SECOND FORM's CARD OF 'dryrotlaw01.CrcMore'. -/
def crcMoreUptoCard : Claim7 := { stood := { row := crcMoreUptoRow, standIns := [], harness := (true, "23f32e32770b94e574216db6c6e3949d5f0b022a7a6049c55b98690e34cba51f"), looks := false }, kinds := [], alts := [], laidByText := true, laidKinds := [.data], laidTests := true, laidLooks := .later }
def CrcMoreUptoCardSaid : Prop := Claim7.holds Tryd.pinned (.plain (OpenSpec.upto crcMoreSpec)) crcMoreUptoCard

/-- THE SECOND FORM's CARD OF 'dryrotlaw01.CrcTells'. -/
def crcTellsUptoCard : Claim7 := { stood := { row := crcTellsUptoRow, standIns := [], harness := (true, "23f32e32770b94e574216db6c6e3949d5f0b022a7a6049c55b98690e34cba51f"), looks := false }, kinds := [], alts := [], laidByText := true, laidKinds := [.data], laidTests := true, laidLooks := .later }
def CrcTellsUptoCardSaid : Prop := Claim7.holds Tryd.pinned (.plain (OpenSpec.upto crcTellsSpec)) crcTellsUptoCard

/-- THE SECOND FORM's CARD OF 'dryrotlaw01.CrcSums'. -/
def crcSumsUptoCard : Claim7 := { stood := { row := crcSumsUptoRow, standIns := [], harness := (true, "23f32e32770b94e574216db6c6e3949d5f0b022a7a6049c55b98690e34cba51f"), looks := false }, kinds := [], alts := [], laidByText := true, laidKinds := [.data], laidTests := true, laidLooks := .later }
def CrcSumsUptoCardSaid : Prop := Claim7.holds Tryd.pinned (.plain (OpenSpec.upto crcSumsSpec)) crcSumsUptoCard

/-- THE SECOND FORM's CARD OF 'dryrotlaw01.CrcNumbers'. -/
def crcNumbersUptoCard : Claim7 := { stood := { row := crcNumbersUptoRow, standIns := [], harness := (true, "23f32e32770b94e574216db6c6e3949d5f0b022a7a6049c55b98690e34cba51f"), looks := false }, kinds := [], alts := [], laidByText := true, laidKinds := [.data], laidTests := true, laidLooks := .later }
def CrcNumbersUptoCardSaid : Prop := Claim7.holds Tryd.pinned (.plain (OpenSpec.upto crcNumbersSpec)) crcNumbersUptoCard

/-- THE SECOND FORM's CARD OF 'dryrotlaw04.ExtentTurned'. -/
def extentTurnedUptoCard : Claim7 := { stood := { row := extentTurnedUptoRow, standIns := [], harness := (true, "23f32e32770b94e574216db6c6e3949d5f0b022a7a6049c55b98690e34cba51f"), looks := false }, kinds := [], alts := [], laidByText := true, laidKinds := [.data], laidTests := true, laidLooks := .later }
def ExtentTurnedUptoCardSaid : Prop := Claim7.holds Tryd.pinned (.plain (OpenSpec.upto extentTurnedSpec)) extentTurnedUptoCard

/-- THE SECOND FORM's CARD OF 'dryrotlaw04.ExtentBack'. -/
def extentBackUptoCard : Claim7 := { stood := { row := extentBackUptoRow, standIns := [], harness := (true, "23f32e32770b94e574216db6c6e3949d5f0b022a7a6049c55b98690e34cba51f"), looks := false }, kinds := [], alts := [], laidByText := true, laidKinds := [.data], laidTests := true, laidLooks := .later }
def ExtentBackUptoCardSaid : Prop := Claim7.holds Tryd.pinned (.plain (OpenSpec.upto extentBackSpec)) extentBackUptoCard

/-- THE SECOND FORM's CARD OF 'dryrotlaw04.ExtentOnce'. -/
def extentOnceUptoCard : Claim7 := { stood := { row := extentOnceUptoRow, standIns := [], harness := (true, "23f32e32770b94e574216db6c6e3949d5f0b022a7a6049c55b98690e34cba51f"), looks := false }, kinds := [], alts := [], laidByText := true, laidKinds := [.data], laidTests := true, laidLooks := .later }
def ExtentOnceUptoCardSaid : Prop := Claim7.holds Tryd.pinned (.plain (OpenSpec.upto extentOnceSpec)) extentOnceUptoCard

/-- THE SECOND FORM's CARD OF 'dryrotlaw04.ExtentFrames'. -/
def extentFramesUptoCard : Claim7 := { stood := { row := extentFramesUptoRow, standIns := [], harness := (true, "23f32e32770b94e574216db6c6e3949d5f0b022a7a6049c55b98690e34cba51f"), looks := false }, kinds := [], alts := [], laidByText := true, laidKinds := [.data], laidTests := true, laidLooks := .later }
def ExtentFramesUptoCardSaid : Prop := Claim7.holds Tryd.pinned (.plain (OpenSpec.upto extentFramesSpec)) extentFramesUptoCard

/-- THE SECOND FORM's CARD OF 'dryrotlaw04.ExtentOpens'. -/
def extentOpensUptoCard : Claim7 := { stood := { row := extentOpensUptoRow, standIns := [], harness := (true, "23f32e32770b94e574216db6c6e3949d5f0b022a7a6049c55b98690e34cba51f"), looks := false }, kinds := [], alts := [], laidByText := true, laidKinds := [.data], laidTests := true, laidLooks := .later }
def ExtentOpensUptoCardSaid : Prop := Claim7.holds Tryd.pinned (.plain (OpenSpec.upto extentOpensSpec)) extentOpensUptoCard
end Rows
end Go.Proofs.YtmaoleabfmokpaaDoor

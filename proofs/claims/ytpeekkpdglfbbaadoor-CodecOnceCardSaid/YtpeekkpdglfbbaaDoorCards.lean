/-
  DERIVED. GIVEN WITH THE SEED: THE CARDS: each row of YtpeekkpdglfbbaaDoorRows.lean that lists a variable, with what it lists TIED to the program's text (the seventh form; the later family's looks); each row that meets fmt, with fmt's text TOLD by the authors' own Lean function (tested against real Go, not proved from fmt's source: count such statements apart). THE CARD IS WHAT COUNTS. Prove the row's statement (the work); the ties are given (YtpeekkpdglfbbaaDoorTie.lean); close each card by the builder's one call (the guide's Derived/Test/ToyasCard.lean, 'card_holds'). Laid BY PROGRAM, IN A SANDBOX (cutbox-door.mjs). By AI agents, Wed Nov 11 2026. No macro, syntax, notation, axiom, sorry.
-/
import Derived.Test.YtpeekkpdglfbbaaDoorRows
import GoSem.ClaimSeven
namespace Go.Proofs.YtpeekkpdglfbbaaDoor
namespace Rows

/-- THE TIED CARD OF 'dryrotlaw11.CodecEven'. -/
def codecEvenCard : Claim7 := { stood := { row := codecEvenRow, standIns := [], harness := (true, "57f0dd5a9e3810199866ace3e3005fd26f212a9c66042a2bc05c6105248b4df3"), looks := false }, kinds := [], alts := [], laidByText := true, laidKinds := [.data], laidTests := true, laidLooks := .later }
def CodecEvenCardSaid : Prop := Claim7.holds Tryd.pinned (.plain (OpenSpec.ofChange codecEvenSpec)) codecEvenCard

/-- THE TIED CARD OF 'dryrotlaw11.CodecBack'. -/
def codecBackCard : Claim7 := { stood := { row := codecBackRow, standIns := [], harness := (true, "57f0dd5a9e3810199866ace3e3005fd26f212a9c66042a2bc05c6105248b4df3"), looks := false }, kinds := [], alts := [], laidByText := true, laidKinds := [.data], laidTests := true, laidLooks := .later }
def CodecBackCardSaid : Prop := Claim7.holds Tryd.pinned (.plain (OpenSpec.ofChange codecBackSpec)) codecBackCard

/-- THE TIED CARD OF 'dryrotlaw11.CodecOnce'. -/
def codecOnceCard : Claim7 := { stood := { row := codecOnceRow, standIns := [], harness := (true, "57f0dd5a9e3810199866ace3e3005fd26f212a9c66042a2bc05c6105248b4df3"), looks := false }, kinds := [], alts := [], laidByText := true, laidKinds := [.data], laidTests := true, laidLooks := .later }
def CodecOnceCardSaid : Prop := Claim7.holds Tryd.pinned (.plain (OpenSpec.ofChange codecOnceSpec)) codecOnceCard

/-- THE TIED CARD OF 'dryrotlaw11.CodecWrites'. -/
def codecWritesCard : Claim7 := { stood := { row := codecWritesRow, standIns := [], harness := (true, "57f0dd5a9e3810199866ace3e3005fd26f212a9c66042a2bc05c6105248b4df3"), looks := false }, kinds := [], alts := [], laidByText := true, laidKinds := [.data], laidTests := true, laidLooks := .later }
def CodecWritesCardSaid : Prop := Claim7.holds Tryd.pinned (.plain (OpenSpec.ofChange codecWritesSpec)) codecWritesCard

/-- THE TIED CARD OF 'dryrotlaw11.CodecReads'. -/
def codecReadsCard : Claim7 := { stood := { row := codecReadsRow, standIns := [], harness := (true, "57f0dd5a9e3810199866ace3e3005fd26f212a9c66042a2bc05c6105248b4df3"), looks := false }, kinds := [], alts := [], laidByText := true, laidKinds := [.data], laidTests := true, laidLooks := .later }
def CodecReadsCardSaid : Prop := Claim7.holds Tryd.pinned (.plain (OpenSpec.ofChange codecReadsSpec)) codecReadsCard

/-- THE SECOND FORM's CARD OF 'dryrotlaw11.CodecEven'. -/
def codecEvenUptoCard : Claim7 := { stood := { row := codecEvenUptoRow, standIns := [], harness := (true, "57f0dd5a9e3810199866ace3e3005fd26f212a9c66042a2bc05c6105248b4df3"), looks := false }, kinds := [], alts := [], laidByText := true, laidKinds := [.data], laidTests := true, laidLooks := .later }
def CodecEvenUptoCardSaid : Prop := Claim7.holds Tryd.pinned (.plain (OpenSpec.upto codecEvenSpec)) codecEvenUptoCard

/-- THE SECOND FORM's CARD OF 'dryrotlaw11.CodecBack'. -/
def codecBackUptoCard : Claim7 := { stood := { row := codecBackUptoRow, standIns := [], harness := (true, "57f0dd5a9e3810199866ace3e3005fd26f212a9c66042a2bc05c6105248b4df3"), looks := false }, kinds := [], alts := [], laidByText := true, laidKinds := [.data], laidTests := true, laidLooks := .later }
def CodecBackUptoCardSaid : Prop := Claim7.holds Tryd.pinned (.plain (OpenSpec.upto codecBackSpec)) codecBackUptoCard

/-- THE SECOND FORM's CARD OF 'dryrotlaw11.CodecOnce'. -/
def codecOnceUptoCard : Claim7 := { stood := { row := codecOnceUptoRow, standIns := [], harness := (true, "57f0dd5a9e3810199866ace3e3005fd26f212a9c66042a2bc05c6105248b4df3"), looks := false }, kinds := [], alts := [], laidByText := true, laidKinds := [.data], laidTests := true, laidLooks := .later }
def CodecOnceUptoCardSaid : Prop := Claim7.holds Tryd.pinned (.plain (OpenSpec.upto codecOnceSpec)) codecOnceUptoCard

/-- THE SECOND FORM's CARD OF 'dryrotlaw11.CodecWrites'. -/
def codecWritesUptoCard : Claim7 := { stood := { row := codecWritesUptoRow, standIns := [], harness := (true, "57f0dd5a9e3810199866ace3e3005fd26f212a9c66042a2bc05c6105248b4df3"), looks := false }, kinds := [], alts := [], laidByText := true, laidKinds := [.data], laidTests := true, laidLooks := .later }
def CodecWritesUptoCardSaid : Prop := Claim7.holds Tryd.pinned (.plain (OpenSpec.upto codecWritesSpec)) codecWritesUptoCard

/-- THE SECOND FORM's CARD OF 'dryrotlaw11.CodecReads'. -/
def codecReadsUptoCard : Claim7 := { stood := { row := codecReadsUptoRow, standIns := [], harness := (true, "57f0dd5a9e3810199866ace3e3005fd26f212a9c66042a2bc05c6105248b4df3"), looks := false }, kinds := [], alts := [], laidByText := true, laidKinds := [.data], laidTests := true, laidLooks := .later }
def CodecReadsUptoCardSaid : Prop := Claim7.holds Tryd.pinned (.plain (OpenSpec.upto codecReadsSpec)) codecReadsUptoCard
end Rows
end Go.Proofs.YtpeekkpdglfbbaaDoor

/-
  DERIVED. GIVEN WITH THE SEED: THE CARDS: each row of YtcgbgifbajdhpaaGreatDoorRows.lean that lists a variable, with what it lists TIED to the program's text (the seventh form; the later family's looks); each row that meets fmt, with fmt's text TOLD by the authors' own Lean function (tested against real Go, not proved from fmt's source: count such statements apart). THE CARD IS WHAT COUNTS. Prove the row's statement (the work); the ties are given (YtcgbgifbajdhpaaGreatDoorTie.lean); close each card by the builder's one call (the guide's Derived/Test/ToyasCard.lean, 'card_holds'). Laid BY PROGRAM, IN A SANDBOX (cutbox-door.mjs). By AI agents, Wed Nov 11 2026. No macro, syntax, notation, axiom, sorry.
-/
import Derived.Test.YtcgbgifbajdhpaaGreatDoorRows
import GoSem.ClaimSeven
namespace Go.Proofs.YtcgbgifbajdhpaaGreatDoor
namespace Rows

/-- THE TIED CARD OF 'dryrotlaw31.DumpWrites'. -/
def dumpWritesCard : Claim7 := { stood := { row := dumpWritesRow, standIns := [], harness := (true, "6caa5a8631ac3d7eff5d0b450ad5ce3d0a7a8f748acd5165b38336f933f60f39"), looks := false }, kinds := [], alts := [], laidByText := true, laidKinds := [.data, .data], laidTests := true, laidLooks := .later }
def DumpWritesCardSaid : Prop := Claim7.holds Tryz.pinned (.plain (OpenSpec.ofChange dumpWritesSpec)) dumpWritesCard

/-- THE TIED CARD OF 'dryrotlaw31.DumpBack'. -/
def dumpBackCard : Claim7 := { stood := { row := dumpBackRow, standIns := [], harness := (true, "6caa5a8631ac3d7eff5d0b450ad5ce3d0a7a8f748acd5165b38336f933f60f39"), looks := false }, kinds := [], alts := [], laidByText := true, laidKinds := [.data, .data], laidTests := true, laidLooks := .later }
def DumpBackCardSaid : Prop := Claim7.holds Tryz.pinned (.plain (OpenSpec.ofChange dumpBackSpec)) dumpBackCard

/-- THE TIED CARD OF 'dryrotlaw31.DumpReads'. -/
def dumpReadsCard : Claim7 := { stood := { row := dumpReadsRow, standIns := [], harness := (true, "6caa5a8631ac3d7eff5d0b450ad5ce3d0a7a8f748acd5165b38336f933f60f39"), looks := false }, kinds := [], alts := [], laidByText := true, laidKinds := [.data, .data], laidTests := true, laidLooks := .later }
def DumpReadsCardSaid : Prop := Claim7.holds Tryz.pinned (.plain (OpenSpec.ofChange dumpReadsSpec)) dumpReadsCard

/-- THE TIED CARD OF 'dryrotlaw31.DumpCuts'. -/
def dumpCutsCard : Claim7 := { stood := { row := dumpCutsRow, standIns := [], harness := (true, "6caa5a8631ac3d7eff5d0b450ad5ce3d0a7a8f748acd5165b38336f933f60f39"), looks := false }, kinds := [], alts := [], laidByText := true, laidKinds := [.data, .data], laidTests := true, laidLooks := .later }
def DumpCutsCardSaid : Prop := Claim7.holds Tryz.pinned (.plain (OpenSpec.ofChange dumpCutsSpec)) dumpCutsCard

/-- THE TIED CARD OF 'dryrotlaw31.DumpRows'. -/
def dumpRowsCard : Claim7 := { stood := { row := dumpRowsRow, standIns := [], harness := (true, "6caa5a8631ac3d7eff5d0b450ad5ce3d0a7a8f748acd5165b38336f933f60f39"), looks := false }, kinds := [], alts := [], laidByText := true, laidKinds := [.data, .data], laidTests := true, laidLooks := .later }
def DumpRowsCardSaid : Prop := Claim7.holds Tryz.pinned (.plain (OpenSpec.ofChange dumpRowsSpec)) dumpRowsCard

/-- THE SECOND FORM's CARD OF 'dryrotlaw31.DumpWrites'. -/
def dumpWritesUptoCard : Claim7 := { stood := { row := dumpWritesUptoRow, standIns := [], harness := (true, "6caa5a8631ac3d7eff5d0b450ad5ce3d0a7a8f748acd5165b38336f933f60f39"), looks := false }, kinds := [], alts := [], laidByText := true, laidKinds := [.data, .data], laidTests := true, laidLooks := .later }
def DumpWritesUptoCardSaid : Prop := Claim7.holds Tryz.pinned (.plain (OpenSpec.upto dumpWritesSpec)) dumpWritesUptoCard

/-- THE SECOND FORM's CARD OF 'dryrotlaw31.DumpBack'. -/
def dumpBackUptoCard : Claim7 := { stood := { row := dumpBackUptoRow, standIns := [], harness := (true, "6caa5a8631ac3d7eff5d0b450ad5ce3d0a7a8f748acd5165b38336f933f60f39"), looks := false }, kinds := [], alts := [], laidByText := true, laidKinds := [.data, .data], laidTests := true, laidLooks := .later }
def DumpBackUptoCardSaid : Prop := Claim7.holds Tryz.pinned (.plain (OpenSpec.upto dumpBackSpec)) dumpBackUptoCard

/-- THE SECOND FORM's CARD OF 'dryrotlaw31.DumpReads'. -/
def dumpReadsUptoCard : Claim7 := { stood := { row := dumpReadsUptoRow, standIns := [], harness := (true, "6caa5a8631ac3d7eff5d0b450ad5ce3d0a7a8f748acd5165b38336f933f60f39"), looks := false }, kinds := [], alts := [], laidByText := true, laidKinds := [.data, .data], laidTests := true, laidLooks := .later }
def DumpReadsUptoCardSaid : Prop := Claim7.holds Tryz.pinned (.plain (OpenSpec.upto dumpReadsSpec)) dumpReadsUptoCard

/-- THE SECOND FORM's CARD OF 'dryrotlaw31.DumpCuts'. -/
def dumpCutsUptoCard : Claim7 := { stood := { row := dumpCutsUptoRow, standIns := [], harness := (true, "6caa5a8631ac3d7eff5d0b450ad5ce3d0a7a8f748acd5165b38336f933f60f39"), looks := false }, kinds := [], alts := [], laidByText := true, laidKinds := [.data, .data], laidTests := true, laidLooks := .later }
def DumpCutsUptoCardSaid : Prop := Claim7.holds Tryz.pinned (.plain (OpenSpec.upto dumpCutsSpec)) dumpCutsUptoCard

/-- THE SECOND FORM's CARD OF 'dryrotlaw31.DumpRows'. -/
def dumpRowsUptoCard : Claim7 := { stood := { row := dumpRowsUptoRow, standIns := [], harness := (true, "6caa5a8631ac3d7eff5d0b450ad5ce3d0a7a8f748acd5165b38336f933f60f39"), looks := false }, kinds := [], alts := [], laidByText := true, laidKinds := [.data, .data], laidTests := true, laidLooks := .later }
def DumpRowsUptoCardSaid : Prop := Claim7.holds Tryz.pinned (.plain (OpenSpec.upto dumpRowsSpec)) dumpRowsUptoCard
end Rows
end Go.Proofs.YtcgbgifbajdhpaaGreatDoor

/-
  DERIVED. GIVEN WITH THE SEED: THE CARDS: each row of YtbgmnmjokdfmlaaDoorRows.lean that lists a variable, with what it lists TIED to the program's text (the seventh form; the later family's looks); each row that meets fmt, with fmt's text TOLD by the authors' own Lean function (tested against real Go, not proved from fmt's source: count such statements apart). THE CARD IS WHAT COUNTS. Prove the row's statement (the work); the ties are given (YtbgmnmjokdfmlaaDoorTie.lean); close each card by the builder's one call (the guide's Derived/Test/ToyasCard.lean, 'card_holds'). Laid BY PROGRAM, IN A SANDBOX (cutbox-door.mjs). By AI agents, Wed Nov 11 2026. No macro, syntax, notation, axiom, sorry.
-/
import Derived.Test.YtbgmnmjokdfmlaaDoorRows
import GoSem.ClaimSeven
namespace Go.Proofs.YtbgmnmjokdfmlaaDoor
namespace Rows

/-- THE TIED CARD OF 'dryrotlaw12.ChunkNobody'. -/
def chunkNobodyCard : Claim7 := { stood := { row := chunkNobodyRow, standIns := [], harness := (true, "b0e512ded28c2763117d83c9c3608909e7ee2ccfe369c318794f99aa984652b3"), looks := false }, kinds := [], alts := [], laidByText := true, laidKinds := [.data], laidTests := true, laidLooks := .later }
def ChunkNobodyCardSaid : Prop := Claim7.holds Tryd.pinned (.plain (OpenSpec.ofChange chunkNobodySpec)) chunkNobodyCard

/-- THE TIED CARD OF 'dryrotlaw12.ChunkWrites'. -/
def chunkWritesCard : Claim7 := { stood := { row := chunkWritesRow, standIns := [], harness := (true, "b0e512ded28c2763117d83c9c3608909e7ee2ccfe369c318794f99aa984652b3"), looks := false }, kinds := [], alts := [], laidByText := true, laidKinds := [.data], laidTests := true, laidLooks := .later }
def ChunkWritesCardSaid : Prop := Claim7.holds Tryd.pinned (.plain (OpenSpec.ofChange chunkWritesSpec)) chunkWritesCard

/-- THE TIED CARD OF 'dryrotlaw12.ChunkReads'. -/
def chunkReadsCard : Claim7 := { stood := { row := chunkReadsRow, standIns := [], harness := (true, "b0e512ded28c2763117d83c9c3608909e7ee2ccfe369c318794f99aa984652b3"), looks := false }, kinds := [], alts := [], laidByText := true, laidKinds := [.data], laidTests := true, laidLooks := .later }
def ChunkReadsCardSaid : Prop := Claim7.holds Tryd.pinned (.plain (OpenSpec.ofChange chunkReadsSpec)) chunkReadsCard

/-- THE TIED CARD OF 'dryrotlaw12.ChunkJoins'. -/
def chunkJoinsCard : Claim7 := { stood := { row := chunkJoinsRow, standIns := [], harness := (true, "b0e512ded28c2763117d83c9c3608909e7ee2ccfe369c318794f99aa984652b3"), looks := false }, kinds := [], alts := [], laidByText := true, laidKinds := [.data], laidTests := true, laidLooks := .later }
def ChunkJoinsCardSaid : Prop := Claim7.holds Tryd.pinned (.plain (OpenSpec.ofChange chunkJoinsSpec)) chunkJoinsCard

/-- THE TIED CARD OF 'dryrotlaw12.ChunkTwice'. -/
def chunkTwiceCard : Claim7 := { stood := { row := chunkTwiceRow, standIns := [], harness := (true, "b0e512ded28c2763117d83c9c3608909e7ee2ccfe369c318794f99aa984652b3"), looks := false }, kinds := [], alts := [], laidByText := true, laidKinds := [.data], laidTests := true, laidLooks := .later }
def ChunkTwiceCardSaid : Prop := Claim7.holds Tryd.pinned (.plain (OpenSpec.ofChange chunkTwiceSpec)) chunkTwiceCard

/-- THE TIED CARD OF 'dryrotlaw12.ChunkBack'. -/
def chunkBackCard : Claim7 := { stood := { row := chunkBackRow, standIns := [], harness := (true, "b0e512ded28c2763117d83c9c3608909e7ee2ccfe369c318794f99aa984652b3"), looks := false }, kinds := [], alts := [], laidByText := true, laidKinds := [.data], laidTests := true, laidLooks := .later }
def ChunkBackCardSaid : Prop := Claim7.holds Tryd.pinned (.plain (OpenSpec.ofChange chunkBackSpec)) chunkBackCard

/-- THE SECOND FORM's CARD OF 'dryrotlaw12.ChunkNobody'. -/
def chunkNobodyUptoCard : Claim7 := { stood := { row := chunkNobodyUptoRow, standIns := [], harness := (true, "b0e512ded28c2763117d83c9c3608909e7ee2ccfe369c318794f99aa984652b3"), looks := false }, kinds := [], alts := [], laidByText := true, laidKinds := [.data], laidTests := true, laidLooks := .later }
def ChunkNobodyUptoCardSaid : Prop := Claim7.holds Tryd.pinned (.plain (OpenSpec.upto chunkNobodySpec)) chunkNobodyUptoCard

/-- THE SECOND FORM's CARD OF 'dryrotlaw12.ChunkWrites'. -/
def chunkWritesUptoCard : Claim7 := { stood := { row := chunkWritesUptoRow, standIns := [], harness := (true, "b0e512ded28c2763117d83c9c3608909e7ee2ccfe369c318794f99aa984652b3"), looks := false }, kinds := [], alts := [], laidByText := true, laidKinds := [.data], laidTests := true, laidLooks := .later }
def ChunkWritesUptoCardSaid : Prop := Claim7.holds Tryd.pinned (.plain (OpenSpec.upto chunkWritesSpec)) chunkWritesUptoCard

/-- THE SECOND FORM's CARD OF 'dryrotlaw12.ChunkReads'. -/
def chunkReadsUptoCard : Claim7 := { stood := { row := chunkReadsUptoRow, standIns := [], harness := (true, "b0e512ded28c2763117d83c9c3608909e7ee2ccfe369c318794f99aa984652b3"), looks := false }, kinds := [], alts := [], laidByText := true, laidKinds := [.data], laidTests := true, laidLooks := .later }
def ChunkReadsUptoCardSaid : Prop := Claim7.holds Tryd.pinned (.plain (OpenSpec.upto chunkReadsSpec)) chunkReadsUptoCard

/-- THE SECOND FORM's CARD OF 'dryrotlaw12.ChunkJoins'. -/
def chunkJoinsUptoCard : Claim7 := { stood := { row := chunkJoinsUptoRow, standIns := [], harness := (true, "b0e512ded28c2763117d83c9c3608909e7ee2ccfe369c318794f99aa984652b3"), looks := false }, kinds := [], alts := [], laidByText := true, laidKinds := [.data], laidTests := true, laidLooks := .later }
def ChunkJoinsUptoCardSaid : Prop := Claim7.holds Tryd.pinned (.plain (OpenSpec.upto chunkJoinsSpec)) chunkJoinsUptoCard

/-- THE SECOND FORM's CARD OF 'dryrotlaw12.ChunkTwice'. -/
def chunkTwiceUptoCard : Claim7 := { stood := { row := chunkTwiceUptoRow, standIns := [], harness := (true, "b0e512ded28c2763117d83c9c3608909e7ee2ccfe369c318794f99aa984652b3"), looks := false }, kinds := [], alts := [], laidByText := true, laidKinds := [.data], laidTests := true, laidLooks := .later }
def ChunkTwiceUptoCardSaid : Prop := Claim7.holds Tryd.pinned (.plain (OpenSpec.upto chunkTwiceSpec)) chunkTwiceUptoCard

/-- THE SECOND FORM's CARD OF 'dryrotlaw12.ChunkBack'. -/
def chunkBackUptoCard : Claim7 := { stood := { row := chunkBackUptoRow, standIns := [], harness := (true, "b0e512ded28c2763117d83c9c3608909e7ee2ccfe369c318794f99aa984652b3"), looks := false }, kinds := [], alts := [], laidByText := true, laidKinds := [.data], laidTests := true, laidLooks := .later }
def ChunkBackUptoCardSaid : Prop := Claim7.holds Tryd.pinned (.plain (OpenSpec.upto chunkBackSpec)) chunkBackUptoCard
end Rows
end Go.Proofs.YtbgmnmjokdfmlaaDoor

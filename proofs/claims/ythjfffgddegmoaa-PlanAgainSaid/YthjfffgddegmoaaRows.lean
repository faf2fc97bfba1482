/-
  No cell of these rows narrows 'for every input' (looked for: loops, veiled, ifaces, maps, wideKeys, modest, calm, conditions, laid).
  DERIVED. THE GIVEN ROWS OF THIS SEAT. 7 by the template 'for every input the law returns true; each argument reads behind the call as it read before'; 0 by the template 'total and deterministic' (their statements: YthjfffgddegmoaaTotals.lean).
  GIVEN WITH THE SEED: the statements are not yours to turn. If you find one false, say at which input.
  Laid BY PROGRAM, IN A SANDBOX (cutbox-rows.mjs): the forced cells as the released guide's own fill.sh prints them over the translation 9f8ebd53ed3122e8… (all of the seat's roots in one cut). By AI agents, Wed Nov 11 2026. No macro, syntax, notation, axiom, sorry.
-/
import Derived.Test.YthjfffgddegmoaaChecked
import GoSem.Claim
import GoSem.ClaimJoined
import GoSem.ClaimMapViews
import Derived.JoinedTies
import Derived.KernelRfl
namespace Go.Proofs.Ythjfffgddegmoaa
/- THE CELL 'sum', in the pinned program and in every row, IS THE sha256 OF THE DUMP (.gsa) THAT YthjfffgddegmoaaProg.lean LOADS. Nothing in Lean hashes anything: it is a label: what it is worth is what the hold of that sum in a sandbox is worth. -/
noncomputable def Try.pinned : Pinned := { name := "ythjfffgddegmoaa", sum := "9f8ebd53ed3122e8554b6066b0eaef95484b7e6bd6fce755829a4a3be46ec111", checked := Try.checked }
namespace Rows
def none {H : Type} : Left H := { results := [], args := [] }

/-- 'dryrotlaw16.PlanFloors': WHATEVER THE INPUT: true; the input reads as it did. -/
def planFloorsSpec : ChangeSpec := { name := "planFloors", fn := fun _ => fun
  | [d1, d2, d3] => { results := [.lit (.bool true)], args := [d1, d2, d3] }
  | _ => none }
def planFloorsRow : OpenClaim := { program := "ythjfffgddegmoaa", sum := "9f8ebd53ed3122e8554b6066b0eaef95484b7e6bd6fce755829a4a3be46ec111", func := "dryrot/dryrotlaw16.PlanFloors", spec := "planFloors", apart := false }
def PlanFloorsSaid : Prop := planFloorsRow.holds Try.pinned (OpenSpec.ofChange planFloorsSpec)

/-- ITS FALSE NEIGHBOUR: 'it returns false'. Refute it at one input. -/
def planFloorsWrong : ChangeSpec := { name := "planFloors", fn := fun _ => fun
  | [d1, d2, d3] => { results := [.lit (.bool false)], args := [d1, d2, d3] }
  | _ => none }
def PlanFloorsWrongFalsely : Prop := planFloorsRow.holds Try.pinned (OpenSpec.ofChange planFloorsWrong)

/-- 'dryrotlaw16.PlanGone': WHATEVER THE INPUT: true; the input reads as it did. -/
def planGoneSpec : ChangeSpec := { name := "planGone", fn := fun _ => fun
  | [d1, d2] => { results := [.lit (.bool true)], args := [d1, d2] }
  | _ => none }
def planGoneRow : OpenClaim := { program := "ythjfffgddegmoaa", sum := "9f8ebd53ed3122e8554b6066b0eaef95484b7e6bd6fce755829a4a3be46ec111", func := "dryrot/dryrotlaw16.PlanGone", spec := "planGone", unfollowed := true, recurses := true, apart := false }
def PlanGoneSaid : Prop := planGoneRow.holds Try.pinned (OpenSpec.ofChange planGoneSpec)

/-- ITS FALSE NEIGHBOUR: 'it returns false'. Refute it at one input. -/
def planGoneWrong : ChangeSpec := { name := "planGone", fn := fun _ => fun
  | [d1, d2] => { results := [.lit (.bool false)], args := [d1, d2] }
  | _ => none }
def PlanGoneWrongFalsely : Prop := planGoneRow.holds Try.pinned (OpenSpec.ofChange planGoneWrong)

/-- 'dryrotlaw16.PlanBlocks': WHATEVER THE INPUT: true; the input reads as it did. -/
def planBlocksSpec : ChangeSpec := { name := "planBlocks", fn := fun _ => fun
  | [d1, d2] => { results := [.lit (.bool true)], args := [d1, d2] }
  | _ => none }
def planBlocksRow : OpenClaim := { program := "ythjfffgddegmoaa", sum := "9f8ebd53ed3122e8554b6066b0eaef95484b7e6bd6fce755829a4a3be46ec111", func := "dryrot/dryrotlaw16.PlanBlocks", spec := "planBlocks", unfollowed := true, recurses := true, apart := false }
def PlanBlocksSaid : Prop := planBlocksRow.holds Try.pinned (OpenSpec.ofChange planBlocksSpec)

/-- ITS FALSE NEIGHBOUR: 'it returns false'. Refute it at one input. -/
def planBlocksWrong : ChangeSpec := { name := "planBlocks", fn := fun _ => fun
  | [d1, d2] => { results := [.lit (.bool false)], args := [d1, d2] }
  | _ => none }
def PlanBlocksWrongFalsely : Prop := planBlocksRow.holds Try.pinned (OpenSpec.ofChange planBlocksWrong)

/-- 'dryrotlaw16.PlanMerged': WHATEVER THE INPUT: true; the input reads as it did. -/
def planMergedSpec : ChangeSpec := { name := "planMerged", fn := fun _ => fun
  | [d1, d2, d3] => { results := [.lit (.bool true)], args := [d1, d2, d3] }
  | _ => none }
def planMergedRow : OpenClaim := { program := "ythjfffgddegmoaa", sum := "9f8ebd53ed3122e8554b6066b0eaef95484b7e6bd6fce755829a4a3be46ec111", func := "dryrot/dryrotlaw16.PlanMerged", spec := "planMerged", unfollowed := true, recurses := true, apart := false }
def PlanMergedSaid : Prop := planMergedRow.holds Try.pinned (OpenSpec.ofChange planMergedSpec)

/-- ITS FALSE NEIGHBOUR: 'it returns false'. Refute it at one input. -/
def planMergedWrong : ChangeSpec := { name := "planMerged", fn := fun _ => fun
  | [d1, d2, d3] => { results := [.lit (.bool false)], args := [d1, d2, d3] }
  | _ => none }
def PlanMergedWrongFalsely : Prop := planMergedRow.holds Try.pinned (OpenSpec.ofChange planMergedWrong)

/-- 'dryrotlaw16.PlanEnds': WHATEVER THE INPUT: true; the input reads as it did. -/
def planEndsSpec : ChangeSpec := { name := "planEnds", fn := fun _ => fun
  | [d] => { results := [.lit (.bool true)], args := [d] }
  | _ => none }
def planEndsRow : OpenClaim := { program := "ythjfffgddegmoaa", sum := "9f8ebd53ed3122e8554b6066b0eaef95484b7e6bd6fce755829a4a3be46ec111", func := "dryrot/dryrotlaw16.PlanEnds", spec := "planEnds", unfollowed := true, recurses := true, apart := false }
def PlanEndsSaid : Prop := planEndsRow.holds Try.pinned (OpenSpec.ofChange planEndsSpec)

/-- ITS FALSE NEIGHBOUR: 'it returns false'. Refute it at one input. -/
def planEndsWrong : ChangeSpec := { name := "planEnds", fn := fun _ => fun
  | [d] => { results := [.lit (.bool false)], args := [d] }
  | _ => none }
def PlanEndsWrongFalsely : Prop := planEndsRow.holds Try.pinned (OpenSpec.ofChange planEndsWrong)

/-- 'dryrotlaw16.PlanLive': WHATEVER THE INPUT: true; the input reads as it did. -/
def planLiveSpec : ChangeSpec := { name := "planLive", fn := fun _ => fun
  | [d1, d2, d3] => { results := [.lit (.bool true)], args := [d1, d2, d3] }
  | _ => none }
def planLiveRow : OpenClaim := { program := "ythjfffgddegmoaa", sum := "9f8ebd53ed3122e8554b6066b0eaef95484b7e6bd6fce755829a4a3be46ec111", func := "dryrot/dryrotlaw16.PlanLive", spec := "planLive", unfollowed := true, recurses := true, apart := false }
def PlanLiveSaid : Prop := planLiveRow.holds Try.pinned (OpenSpec.ofChange planLiveSpec)

/-- ITS FALSE NEIGHBOUR: 'it returns false'. Refute it at one input. -/
def planLiveWrong : ChangeSpec := { name := "planLive", fn := fun _ => fun
  | [d1, d2, d3] => { results := [.lit (.bool false)], args := [d1, d2, d3] }
  | _ => none }
def PlanLiveWrongFalsely : Prop := planLiveRow.holds Try.pinned (OpenSpec.ofChange planLiveWrong)

/-- 'dryrotlaw16.PlanAgain': WHATEVER THE INPUT: true; the input reads as it did. -/
def planAgainSpec : ChangeSpec := { name := "planAgain", fn := fun _ => fun
  | [d1, d2, d3] => { results := [.lit (.bool true)], args := [d1, d2, d3] }
  | _ => none }
def planAgainRow : OpenClaim := { program := "ythjfffgddegmoaa", sum := "9f8ebd53ed3122e8554b6066b0eaef95484b7e6bd6fce755829a4a3be46ec111", func := "dryrot/dryrotlaw16.PlanAgain", spec := "planAgain", unfollowed := true, recurses := true, apart := false }
def PlanAgainSaid : Prop := planAgainRow.holds Try.pinned (OpenSpec.ofChange planAgainSpec)

/-- ITS FALSE NEIGHBOUR: 'it returns false'. Refute it at one input. -/
def planAgainWrong : ChangeSpec := { name := "planAgain", fn := fun _ => fun
  | [d1, d2, d3] => { results := [.lit (.bool false)], args := [d1, d2, d3] }
  | _ => none }
def PlanAgainWrongFalsely : Prop := planAgainRow.holds Try.pinned (OpenSpec.ofChange planAgainWrong)

/- THE SECOND FORM. 'bulk': how many values and letters a reading holds, each counted each time it is reached (what is shared counts as often as it is met; a slice's spare places count too). A statement '..UptoSaid' is the law's where the arguments, and the package variables that the reading takes, are together of bulk at most 1048576: NARROWER than '..Said'. Prove '..Said' where nothing that the law and all that it calls make is longer than what came in: it says more and counts as full. Else prove '..UptoSaid'. A law counts once. -/
mutual
def uptoBulk {H : Type} : DataW H → Nat
  | .lit (.string bytes) => bytes.length + 1
  | .lit _ => 1
  | .nil => 1
  | .ptr d => uptoBulk d + 1
  | .slice elems spare => uptoBulkAll elems + uptoBulkAll spare + 1
  | .agg parts => uptoBulkAll parts + 1
  | .iface _ d => uptoBulk d + 1
  | .map entries => uptoBulkEntries entries + 1
  | .held _ => 1
def uptoBulkAll {H : Type} : List (DataW H) → Nat
  | [] => 0
  | d :: r => uptoBulk d + uptoBulkAll r
def uptoBulkEntries {H : Type} : List (Lit × DataW H) → Nat
  | [] => 0
  | x :: r => uptoBulkEntry x + uptoBulkEntries r
def uptoBulkEntry {H : Type} : Lit × DataW H → Nat
  | (.string bytes, d) => bytes.length + uptoBulk d + 1
  | (_, d) => uptoBulk d + 1
 end
def uptoSmall : (H : Type) → List (DataW H) → Bool := fun _ ds => decide (uptoBulkAll ds ≤ 1048576)
def OpenSpec.upto (s : _root_.Go.ChangeSpec) : _root_.Go.OpenSpec := { _root_.Go.OpenSpec.ofChange s with cond := some uptoSmall }

/-- 'dryrotlaw16.PlanFloors', WHERE WHAT IT READS IS OF BULK AT MOST 1048576: true; the input reads as it did. -/
def planFloorsUptoRow : OpenClaim := { program := "ythjfffgddegmoaa", sum := "9f8ebd53ed3122e8554b6066b0eaef95484b7e6bd6fce755829a4a3be46ec111", func := "dryrot/dryrotlaw16.PlanFloors", spec := "planFloors", apart := false, narrowed := true }
def PlanFloorsUptoSaid : Prop := planFloorsUptoRow.holds Try.pinned (OpenSpec.upto planFloorsSpec)

/-- 'dryrotlaw16.PlanGone', WHERE WHAT IT READS IS OF BULK AT MOST 1048576: true; the input reads as it did. -/
def planGoneUptoRow : OpenClaim := { program := "ythjfffgddegmoaa", sum := "9f8ebd53ed3122e8554b6066b0eaef95484b7e6bd6fce755829a4a3be46ec111", func := "dryrot/dryrotlaw16.PlanGone", spec := "planGone", unfollowed := true, recurses := true, apart := false, narrowed := true }
def PlanGoneUptoSaid : Prop := planGoneUptoRow.holds Try.pinned (OpenSpec.upto planGoneSpec)

/-- 'dryrotlaw16.PlanBlocks', WHERE WHAT IT READS IS OF BULK AT MOST 1048576: true; the input reads as it did. -/
def planBlocksUptoRow : OpenClaim := { program := "ythjfffgddegmoaa", sum := "9f8ebd53ed3122e8554b6066b0eaef95484b7e6bd6fce755829a4a3be46ec111", func := "dryrot/dryrotlaw16.PlanBlocks", spec := "planBlocks", unfollowed := true, recurses := true, apart := false, narrowed := true }
def PlanBlocksUptoSaid : Prop := planBlocksUptoRow.holds Try.pinned (OpenSpec.upto planBlocksSpec)

/-- 'dryrotlaw16.PlanMerged', WHERE WHAT IT READS IS OF BULK AT MOST 1048576: true; the input reads as it did. -/
def planMergedUptoRow : OpenClaim := { program := "ythjfffgddegmoaa", sum := "9f8ebd53ed3122e8554b6066b0eaef95484b7e6bd6fce755829a4a3be46ec111", func := "dryrot/dryrotlaw16.PlanMerged", spec := "planMerged", unfollowed := true, recurses := true, apart := false, narrowed := true }
def PlanMergedUptoSaid : Prop := planMergedUptoRow.holds Try.pinned (OpenSpec.upto planMergedSpec)

/-- 'dryrotlaw16.PlanEnds', WHERE WHAT IT READS IS OF BULK AT MOST 1048576: true; the input reads as it did. -/
def planEndsUptoRow : OpenClaim := { program := "ythjfffgddegmoaa", sum := "9f8ebd53ed3122e8554b6066b0eaef95484b7e6bd6fce755829a4a3be46ec111", func := "dryrot/dryrotlaw16.PlanEnds", spec := "planEnds", unfollowed := true, recurses := true, apart := false, narrowed := true }
def PlanEndsUptoSaid : Prop := planEndsUptoRow.holds Try.pinned (OpenSpec.upto planEndsSpec)

/-- 'dryrotlaw16.PlanLive', WHERE WHAT IT READS IS OF BULK AT MOST 1048576: true; the input reads as it did. -/
def planLiveUptoRow : OpenClaim := { program := "ythjfffgddegmoaa", sum := "9f8ebd53ed3122e8554b6066b0eaef95484b7e6bd6fce755829a4a3be46ec111", func := "dryrot/dryrotlaw16.PlanLive", spec := "planLive", unfollowed := true, recurses := true, apart := false, narrowed := true }
def PlanLiveUptoSaid : Prop := planLiveUptoRow.holds Try.pinned (OpenSpec.upto planLiveSpec)

/-- 'dryrotlaw16.PlanAgain', WHERE WHAT IT READS IS OF BULK AT MOST 1048576: true; the input reads as it did. -/
def planAgainUptoRow : OpenClaim := { program := "ythjfffgddegmoaa", sum := "9f8ebd53ed3122e8554b6066b0eaef95484b7e6bd6fce755829a4a3be46ec111", func := "dryrot/dryrotlaw16.PlanAgain", spec := "planAgain", unfollowed := true, recurses := true, apart := false, narrowed := true }
def PlanAgainUptoSaid : Prop := planAgainUptoRow.holds Try.pinned (OpenSpec.upto planAgainSpec)

end Rows
end Go.Proofs.Ythjfffgddegmoaa

/-
  NARROWER THAN 'FOR EVERY INPUT', by the rows' own cells (each row's printed sentence says how): CrcMore: laid · CrcTells: laid · CrcSums: laid · CrcNumbers: laid · ExtentTurned: laid · ExtentBack: laid · ExtentOnce: laid · ExtentFrames: laid · ExtentOpens: laid.
  DERIVED. THE GIVEN ROWS OF THIS SEAT. 9 by the template 'for every input the law returns true; each argument reads behind the call as it read before'; 0 by the template 'total and deterministic' (their statements: YtmaoleabfmokpaaDoorTotals.lean).
  GIVEN WITH THE SEED: the statements are not yours to turn. If you find one false, say at which input.
  Laid BY PROGRAM, IN A SANDBOX (cutbox-rows.mjs): the forced cells as the released guide's own fill.sh prints them over the translation b8f44a4740509260… (all of the seat's roots in one cut). By AI agents, Wed Nov 11 2026. No macro, syntax, notation, axiom, sorry.
-/
import Derived.Test.YtmaoleabfmokpaaDoorChecked
import GoSem.Claim
import GoSem.ClaimJoined
import GoSem.ClaimMapViews
import Derived.JoinedTies
import Derived.KernelRfl
namespace Go.Proofs.YtmaoleabfmokpaaDoor
/- THE CELL 'sum', in the pinned program and in every row, IS THE sha256 OF THE DUMP (.gsa) THAT YtmaoleabfmokpaaDoorProg.lean LOADS. Nothing in Lean hashes anything: it is a label: what it is worth is what the hold of that sum in a sandbox is worth. -/
noncomputable def Tryd.pinned : Pinned := { name := "ytmaoleabfmokpaadoor", sum := "b8f44a4740509260a7f7f02a97e3766857c26acca2a351f6f8b5429347e57610", checked := Tryd.checked }
namespace Rows
def none {H : Type} : Left H := { results := [], args := [] }

/- WHAT THE LISTED PACKAGE-LEVEL VARIABLES READ AS WHEN THE CALL BEGINS. Each datum BY PROGRAM (the guide's laid-datum.mjs) off the statement by which the dump's own 'gosem.cut.vars' lays the variable. In a bare row this is a premise. The card (YtmaoleabfmokpaaDoorCards.lean) ties it to the program's text. -/
def laid_dryrot_crc_quarter {H : Type} : DataW H := .agg [.lit (.int .u32 0), .lit (.int .u32 1098587580), .lit (.int .u32 2197175160), .lit (.int .u32 3280807620)]

/-- 'dryrotlaw01.CrcMore': WHATEVER THE INPUT: true; the input reads as it did. -/
def crcMoreSpec : ChangeSpec := { name := "crcMore", fn := fun _ => fun
  | [d1, d2, d3] => { results := [.lit (.bool true)], args := [d1, d2, d3] }
  | _ => none }
def crcMoreRow : OpenClaim := { program := "ytmaoleabfmokpaadoor", sum := "b8f44a4740509260a7f7f02a97e3766857c26acca2a351f6f8b5429347e57610", func := "dryrot/dryrotlaw01.CrcMore", spec := "crcMore", named := ["dryrot/crc.quarter"], apart := false, laid := [("dryrot/crc.quarter", laid_dryrot_crc_quarter)] }
def CrcMoreSaid : Prop := crcMoreRow.holds Tryd.pinned (OpenSpec.ofChange crcMoreSpec)

/-- ITS FALSE NEIGHBOUR: 'it returns false'. Refute it at one input. -/
def crcMoreWrong : ChangeSpec := { name := "crcMore", fn := fun _ => fun
  | [d1, d2, d3] => { results := [.lit (.bool false)], args := [d1, d2, d3] }
  | _ => none }
def CrcMoreWrongFalsely : Prop := crcMoreRow.holds Tryd.pinned (OpenSpec.ofChange crcMoreWrong)

/-- 'dryrotlaw01.CrcTells': WHATEVER THE INPUT: true; the input reads as it did. -/
def crcTellsSpec : ChangeSpec := { name := "crcTells", fn := fun _ => fun
  | [d1, d2, d3] => { results := [.lit (.bool true)], args := [d1, d2, d3] }
  | _ => none }
def crcTellsRow : OpenClaim := { program := "ytmaoleabfmokpaadoor", sum := "b8f44a4740509260a7f7f02a97e3766857c26acca2a351f6f8b5429347e57610", func := "dryrot/dryrotlaw01.CrcTells", spec := "crcTells", named := ["dryrot/crc.quarter"], apart := false, laid := [("dryrot/crc.quarter", laid_dryrot_crc_quarter)] }
def CrcTellsSaid : Prop := crcTellsRow.holds Tryd.pinned (OpenSpec.ofChange crcTellsSpec)

/-- ITS FALSE NEIGHBOUR: 'it returns false'. Refute it at one input. -/
def crcTellsWrong : ChangeSpec := { name := "crcTells", fn := fun _ => fun
  | [d1, d2, d3] => { results := [.lit (.bool false)], args := [d1, d2, d3] }
  | _ => none }
def CrcTellsWrongFalsely : Prop := crcTellsRow.holds Tryd.pinned (OpenSpec.ofChange crcTellsWrong)

/-- 'dryrotlaw01.CrcSums': WHATEVER THE INPUT: true; the input reads as it did. -/
def crcSumsSpec : ChangeSpec := { name := "crcSums", fn := fun _ => fun
  | [d] => { results := [.lit (.bool true)], args := [d] }
  | _ => none }
def crcSumsRow : OpenClaim := { program := "ytmaoleabfmokpaadoor", sum := "b8f44a4740509260a7f7f02a97e3766857c26acca2a351f6f8b5429347e57610", func := "dryrot/dryrotlaw01.CrcSums", spec := "crcSums", named := ["dryrot/crc.quarter"], apart := false, laid := [("dryrot/crc.quarter", laid_dryrot_crc_quarter)] }
def CrcSumsSaid : Prop := crcSumsRow.holds Tryd.pinned (OpenSpec.ofChange crcSumsSpec)

/-- ITS FALSE NEIGHBOUR: 'it returns false'. Refute it at one input. -/
def crcSumsWrong : ChangeSpec := { name := "crcSums", fn := fun _ => fun
  | [d] => { results := [.lit (.bool false)], args := [d] }
  | _ => none }
def CrcSumsWrongFalsely : Prop := crcSumsRow.holds Tryd.pinned (OpenSpec.ofChange crcSumsWrong)

/-- 'dryrotlaw01.CrcNumbers': WHATEVER THE INPUT: true; the input reads as it did. -/
def crcNumbersSpec : ChangeSpec := { name := "crcNumbers", fn := fun _ => fun
  | [d1, d2, d3] => { results := [.lit (.bool true)], args := [d1, d2, d3] }
  | _ => none }
def crcNumbersRow : OpenClaim := { program := "ytmaoleabfmokpaadoor", sum := "b8f44a4740509260a7f7f02a97e3766857c26acca2a351f6f8b5429347e57610", func := "dryrot/dryrotlaw01.CrcNumbers", spec := "crcNumbers", named := ["dryrot/crc.quarter"], apart := false, laid := [("dryrot/crc.quarter", laid_dryrot_crc_quarter)] }
def CrcNumbersSaid : Prop := crcNumbersRow.holds Tryd.pinned (OpenSpec.ofChange crcNumbersSpec)

/-- ITS FALSE NEIGHBOUR: 'it returns false'. Refute it at one input. -/
def crcNumbersWrong : ChangeSpec := { name := "crcNumbers", fn := fun _ => fun
  | [d1, d2, d3] => { results := [.lit (.bool false)], args := [d1, d2, d3] }
  | _ => none }
def CrcNumbersWrongFalsely : Prop := crcNumbersRow.holds Tryd.pinned (OpenSpec.ofChange crcNumbersWrong)

/-- 'dryrotlaw04.ExtentTurned': WHATEVER THE INPUT: true; the input reads as it did. -/
def extentTurnedSpec : ChangeSpec := { name := "extentTurned", fn := fun _ => fun
  | [d1, d2, d3, d4, d5] => { results := [.lit (.bool true)], args := [d1, d2, d3, d4, d5] }
  | _ => none }
def extentTurnedRow : OpenClaim := { program := "ytmaoleabfmokpaadoor", sum := "b8f44a4740509260a7f7f02a97e3766857c26acca2a351f6f8b5429347e57610", func := "dryrot/dryrotlaw04.ExtentTurned", spec := "extentTurned", named := ["dryrot/crc.quarter"], apart := false, laid := [("dryrot/crc.quarter", laid_dryrot_crc_quarter)] }
def ExtentTurnedSaid : Prop := extentTurnedRow.holds Tryd.pinned (OpenSpec.ofChange extentTurnedSpec)

/-- ITS FALSE NEIGHBOUR: 'it returns false'. Refute it at one input. -/
def extentTurnedWrong : ChangeSpec := { name := "extentTurned", fn := fun _ => fun
  | [d1, d2, d3, d4, d5] => { results := [.lit (.bool false)], args := [d1, d2, d3, d4, d5] }
  | _ => none }
def ExtentTurnedWrongFalsely : Prop := extentTurnedRow.holds Tryd.pinned (OpenSpec.ofChange extentTurnedWrong)

/-- 'dryrotlaw04.ExtentBack': WHATEVER THE INPUT: true; the input reads as it did. -/
def extentBackSpec : ChangeSpec := { name := "extentBack", fn := fun _ => fun
  | [d1, d2, d3, d4] => { results := [.lit (.bool true)], args := [d1, d2, d3, d4] }
  | _ => none }
def extentBackRow : OpenClaim := { program := "ytmaoleabfmokpaadoor", sum := "b8f44a4740509260a7f7f02a97e3766857c26acca2a351f6f8b5429347e57610", func := "dryrot/dryrotlaw04.ExtentBack", spec := "extentBack", named := ["dryrot/crc.quarter"], apart := false, laid := [("dryrot/crc.quarter", laid_dryrot_crc_quarter)] }
def ExtentBackSaid : Prop := extentBackRow.holds Tryd.pinned (OpenSpec.ofChange extentBackSpec)

/-- ITS FALSE NEIGHBOUR: 'it returns false'. Refute it at one input. -/
def extentBackWrong : ChangeSpec := { name := "extentBack", fn := fun _ => fun
  | [d1, d2, d3, d4] => { results := [.lit (.bool false)], args := [d1, d2, d3, d4] }
  | _ => none }
def ExtentBackWrongFalsely : Prop := extentBackRow.holds Tryd.pinned (OpenSpec.ofChange extentBackWrong)

/-- 'dryrotlaw04.ExtentOnce': WHATEVER THE INPUT: true; the input reads as it did. -/
def extentOnceSpec : ChangeSpec := { name := "extentOnce", fn := fun _ => fun
  | [d1, d2, d3] => { results := [.lit (.bool true)], args := [d1, d2, d3] }
  | _ => none }
def extentOnceRow : OpenClaim := { program := "ytmaoleabfmokpaadoor", sum := "b8f44a4740509260a7f7f02a97e3766857c26acca2a351f6f8b5429347e57610", func := "dryrot/dryrotlaw04.ExtentOnce", spec := "extentOnce", named := ["dryrot/crc.quarter"], apart := false, laid := [("dryrot/crc.quarter", laid_dryrot_crc_quarter)] }
def ExtentOnceSaid : Prop := extentOnceRow.holds Tryd.pinned (OpenSpec.ofChange extentOnceSpec)

/-- ITS FALSE NEIGHBOUR: 'it returns false'. Refute it at one input. -/
def extentOnceWrong : ChangeSpec := { name := "extentOnce", fn := fun _ => fun
  | [d1, d2, d3] => { results := [.lit (.bool false)], args := [d1, d2, d3] }
  | _ => none }
def ExtentOnceWrongFalsely : Prop := extentOnceRow.holds Tryd.pinned (OpenSpec.ofChange extentOnceWrong)

/-- 'dryrotlaw04.ExtentFrames': WHATEVER THE INPUT: true; the input reads as it did. -/
def extentFramesSpec : ChangeSpec := { name := "extentFrames", fn := fun _ => fun
  | [d1, d2, d3, d4] => { results := [.lit (.bool true)], args := [d1, d2, d3, d4] }
  | _ => none }
def extentFramesRow : OpenClaim := { program := "ytmaoleabfmokpaadoor", sum := "b8f44a4740509260a7f7f02a97e3766857c26acca2a351f6f8b5429347e57610", func := "dryrot/dryrotlaw04.ExtentFrames", spec := "extentFrames", named := ["dryrot/crc.quarter"], apart := false, laid := [("dryrot/crc.quarter", laid_dryrot_crc_quarter)] }
def ExtentFramesSaid : Prop := extentFramesRow.holds Tryd.pinned (OpenSpec.ofChange extentFramesSpec)

/-- ITS FALSE NEIGHBOUR: 'it returns false'. Refute it at one input. -/
def extentFramesWrong : ChangeSpec := { name := "extentFrames", fn := fun _ => fun
  | [d1, d2, d3, d4] => { results := [.lit (.bool false)], args := [d1, d2, d3, d4] }
  | _ => none }
def ExtentFramesWrongFalsely : Prop := extentFramesRow.holds Tryd.pinned (OpenSpec.ofChange extentFramesWrong)

/-- 'dryrotlaw04.ExtentOpens': WHATEVER THE INPUT: true; the input reads as it did. -/
def extentOpensSpec : ChangeSpec := { name := "extentOpens", fn := fun _ => fun
  | [d1, d2, d3] => { results := [.lit (.bool true)], args := [d1, d2, d3] }
  | _ => none }
def extentOpensRow : OpenClaim := { program := "ytmaoleabfmokpaadoor", sum := "b8f44a4740509260a7f7f02a97e3766857c26acca2a351f6f8b5429347e57610", func := "dryrot/dryrotlaw04.ExtentOpens", spec := "extentOpens", named := ["dryrot/crc.quarter"], apart := false, laid := [("dryrot/crc.quarter", laid_dryrot_crc_quarter)] }
def ExtentOpensSaid : Prop := extentOpensRow.holds Tryd.pinned (OpenSpec.ofChange extentOpensSpec)

/-- ITS FALSE NEIGHBOUR: 'it returns false'. Refute it at one input. -/
def extentOpensWrong : ChangeSpec := { name := "extentOpens", fn := fun _ => fun
  | [d1, d2, d3] => { results := [.lit (.bool false)], args := [d1, d2, d3] }
  | _ => none }
def ExtentOpensWrongFalsely : Prop := extentOpensRow.holds Tryd.pinned (OpenSpec.ofChange extentOpensWrong)

/- THE SECOND FORM. 'bulk': how many values and letters a reading holds, each counted each time it is reached (what is shared counts as often as it is met; a slice's spare places count too). A statement '..UptoSaid' is the law's where the arguments, and the package variables that the reading takes, are together of bulk at most 1048576: NARROWER than '..Said'. Prove '..Said' where nothing that the law and all that it calls make is longer than what came in: it says more and counts as full. Else prove '..UptoSaid'. A law counts once. -/
mutual
def uptoBulk {H : Type} : DataW H → Nat
  | .lit (.string bytes) => bytes.length + 1
  | .lit _ => 1
  | .nil => 1
  | .ptr d => uptoBulk d + 1
  | .slice elems spare => uptoBulkAll elems + uptoBulkAll spare + 1
  | .agg parts => uptoBulkAll parts + 1
  | .iface _ d => uptoBulk d + 1
  | .map entries => uptoBulkEntries entries + 1
  | .held _ => 1
def uptoBulkAll {H : Type} : List (DataW H) → Nat
  | [] => 0
  | d :: r => uptoBulk d + uptoBulkAll r
def uptoBulkEntries {H : Type} : List (Lit × DataW H) → Nat
  | [] => 0
  | x :: r => uptoBulkEntry x + uptoBulkEntries r
def uptoBulkEntry {H : Type} : Lit × DataW H → Nat
  | (.string bytes, d) => bytes.length + uptoBulk d + 1
  | (_, d) => uptoBulk d + 1
 end
def uptoSmall : (H : Type) → List (DataW H) → Bool := fun _ ds => decide (uptoBulkAll ds ≤ 1048576)
def OpenSpec.upto (s : _root_.Go.ChangeSpec) : _root_.Go.OpenSpec := { _root_.Go.OpenSpec.ofChange s with cond := some uptoSmall }

/-- 'dryrotlaw01.CrcMore', WHERE WHAT IT READS IS OF BULK AT MOST 1048576: true; the input reads as it did. -/
def crcMoreUptoRow : OpenClaim := { program := "ytmaoleabfmokpaadoor", sum := "b8f44a4740509260a7f7f02a97e3766857c26acca2a351f6f8b5429347e57610", func := "dryrot/dryrotlaw01.CrcMore", spec := "crcMore", named := ["dryrot/crc.quarter"], apart := false, laid := [("dryrot/crc.quarter", laid_dryrot_crc_quarter)], narrowed := true }
def CrcMoreUptoSaid : Prop := crcMoreUptoRow.holds Tryd.pinned (OpenSpec.upto crcMoreSpec)

/-- 'dryrotlaw01.CrcTells', WHERE WHAT IT READS IS OF BULK AT MOST 1048576: true; the input reads as it did. -/
def crcTellsUptoRow : OpenClaim := { program := "ytmaoleabfmokpaadoor", sum := "b8f44a4740509260a7f7f02a97e3766857c26acca2a351f6f8b5429347e57610", func := "dryrot/dryrotlaw01.CrcTells", spec := "crcTells", named := ["dryrot/crc.quarter"], apart := false, laid := [("dryrot/crc.quarter", laid_dryrot_crc_quarter)], narrowed := true }
def CrcTellsUptoSaid : Prop := crcTellsUptoRow.holds Tryd.pinned (OpenSpec.upto crcTellsSpec)

/-- 'dryrotlaw01.CrcSums', WHERE WHAT IT READS IS OF BULK AT MOST 1048576: true; the input reads as it did. -/
def crcSumsUptoRow : OpenClaim := { program := "ytmaoleabfmokpaadoor", sum := "b8f44a4740509260a7f7f02a97e3766857c26acca2a351f6f8b5429347e57610", func := "dryrot/dryrotlaw01.CrcSums", spec := "crcSums", named := ["dryrot/crc.quarter"], apart := false, laid := [("dryrot/crc.quarter", laid_dryrot_crc_quarter)], narrowed := true }
def CrcSumsUptoSaid : Prop := crcSumsUptoRow.holds Tryd.pinned (OpenSpec.upto crcSumsSpec)

/-- 'dryrotlaw01.CrcNumbers', WHERE WHAT IT READS IS OF BULK AT MOST 1048576: true; the input reads as it did. -/
def crcNumbersUptoRow : OpenClaim := { program := "ytmaoleabfmokpaadoor", sum := "b8f44a4740509260a7f7f02a97e3766857c26acca2a351f6f8b5429347e57610", func := "dryrot/dryrotlaw01.CrcNumbers", spec := "crcNumbers", named := ["dryrot/crc.quarter"], apart := false, laid := [("dryrot/crc.quarter", laid_dryrot_crc_quarter)], narrowed := true }
def CrcNumbersUptoSaid : Prop := crcNumbersUptoRow.holds Tryd.pinned (OpenSpec.upto crcNumbersSpec)

/-- 'dryrotlaw04.ExtentTurned', WHERE WHAT IT READS IS OF BULK AT MOST 1048576: true; the input reads as it did. -/
def extentTurnedUptoRow : OpenClaim := { program := "ytmaoleabfmokpaadoor", sum := "b8f44a4740509260a7f7f02a97e3766857c26acca2a351f6f8b5429347e57610", func := "dryrot/dryrotlaw04.ExtentTurned", spec := "extentTurned", named := ["dryrot/crc.quarter"], apart := false, laid := [("dryrot/crc.quarter", laid_dryrot_crc_quarter)], narrowed := true }
def ExtentTurnedUptoSaid : Prop := extentTurnedUptoRow.holds Tryd.pinned (OpenSpec.upto extentTurnedSpec)

/-- 'dryrotlaw04.ExtentBack', WHERE WHAT IT READS IS OF BULK AT MOST 1048576: true; the input reads as it did. -/
def extentBackUptoRow : OpenClaim := { program := "ytmaoleabfmokpaadoor", sum := "b8f44a4740509260a7f7f02a97e3766857c26acca2a351f6f8b5429347e57610", func := "dryrot/dryrotlaw04.ExtentBack", spec := "extentBack", named := ["dryrot/crc.quarter"], apart := false, laid := [("dryrot/crc.quarter", laid_dryrot_crc_quarter)], narrowed := true }
def ExtentBackUptoSaid : Prop := extentBackUptoRow.holds Tryd.pinned (OpenSpec.upto extentBackSpec)

/-- 'dryrotlaw04.ExtentOnce', WHERE WHAT IT READS IS OF BULK AT MOST 1048576: true; the input reads as it did. -/
def extentOnceUptoRow : OpenClaim := { program := "ytmaoleabfmokpaadoor", sum := "b8f44a4740509260a7f7f02a97e3766857c26acca2a351f6f8b5429347e57610", func := "dryrot/dryrotlaw04.ExtentOnce", spec := "extentOnce", named := ["dryrot/crc.quarter"], apart := false, laid := [("dryrot/crc.quarter", laid_dryrot_crc_quarter)], narrowed := true }
def ExtentOnceUptoSaid : Prop := extentOnceUptoRow.holds Tryd.pinned (OpenSpec.upto extentOnceSpec)

/-- 'dryrotlaw04.ExtentFrames', WHERE WHAT IT READS IS OF BULK AT MOST 1048576: true; the input reads as it did. -/
def extentFramesUptoRow : OpenClaim := { program := "ytmaoleabfmokpaadoor", sum := "b8f44a4740509260a7f7f02a97e3766857c26acca2a351f6f8b5429347e57610", func := "dryrot/dryrotlaw04.ExtentFrames", spec := "extentFrames", named := ["dryrot/crc.quarter"], apart := false, laid := [("dryrot/crc.quarter", laid_dryrot_crc_quarter)], narrowed := true }
def ExtentFramesUptoSaid : Prop := extentFramesUptoRow.holds Tryd.pinned (OpenSpec.upto extentFramesSpec)

/-- 'dryrotlaw04.ExtentOpens', WHERE WHAT IT READS IS OF BULK AT MOST 1048576: true; the input reads as it did. -/
def extentOpensUptoRow : OpenClaim := { program := "ytmaoleabfmokpaadoor", sum := "b8f44a4740509260a7f7f02a97e3766857c26acca2a351f6f8b5429347e57610", func := "dryrot/dryrotlaw04.ExtentOpens", spec := "extentOpens", named := ["dryrot/crc.quarter"], apart := false, laid := [("dryrot/crc.quarter", laid_dryrot_crc_quarter)], narrowed := true }
def ExtentOpensUptoSaid : Prop := extentOpensUptoRow.holds Tryd.pinned (OpenSpec.upto extentOpensSpec)

end Rows
end Go.Proofs.YtmaoleabfmokpaaDoor

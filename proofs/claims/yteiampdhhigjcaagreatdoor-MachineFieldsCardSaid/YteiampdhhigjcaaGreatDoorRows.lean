/-
  NARROWER THAN 'FOR EVERY INPUT', by the rows' own cells (each row's printed sentence says how): MachineChecks: loops, laid · MachineParts: loops, laid · MachineValues: loops, laid · MachineNames: laid · MachineKeeps: loops, laid · MachineTwice: loops, laid · MachineOverlaps: loops, laid · MachineFields: loops, laid.
  DERIVED. THE GIVEN ROWS OF THIS SEAT. 8 by the template 'for every input the law returns true; each argument reads behind the call as it read before'; 0 by the template 'total and deterministic' (their statements: YteiampdhhigjcaaGreatDoorTotals.lean).
  GIVEN WITH THE SEED: the statements are not yours to turn. If you find one false, say at which input.
  Laid BY PROGRAM, IN A SANDBOX (cutbox-rows.mjs): the forced cells as the released guide's own fill.sh prints them over the translation 61bc3ab83ddc9883… (all of the seat's roots in one cut). By AI agents, Wed Nov 11 2026. No macro, syntax, notation, axiom, sorry.
-/
import Derived.Test.YteiampdhhigjcaaGreatDoorChecked
import GoSem.Claim
import GoSem.ClaimJoined
import GoSem.ClaimMapViews
import Derived.JoinedTies
import Derived.KernelRfl
namespace Go.Proofs.YteiampdhhigjcaaGreatDoor
/- THE CELL 'sum', in the pinned program and in every row, IS THE sha256 OF THE DUMP (.gsa) THAT YteiampdhhigjcaaGreatDoorProg.lean LOADS. Nothing in Lean hashes anything: it is a label: what it is worth is what the hold of that sum in a sandbox is worth. -/
noncomputable def Tryz.pinned : Pinned := { name := "yteiampdhhigjcaagreatdoor", sum := "61bc3ab83ddc98832c0b72e21c6dc05d8cb3ef593b86e30ad2c31d830fb7cb91", checked := Tryz.checked }
namespace Rows
def none {H : Type} : Left H := { results := [], args := [] }

/- WHAT THE LISTED PACKAGE-LEVEL VARIABLES READ AS WHEN THE CALL BEGINS. Each datum BY PROGRAM (the guide's laid-datum.mjs) off the statement by which the dump's own 'gosem.cut.vars' lays the variable. In a bare row this is a premise. The card (YteiampdhhigjcaaGreatDoorCards.lean) ties it to the program's text. -/
def laid_retarget_term_shapes {H : Type} : DataW H := .agg [.agg [.lit (.string []), .lit (.int .i64 0), .lit (.int .i64 0)], .agg [.lit (.string []), .lit (.int .i64 0), .lit (.int .i64 0)], .agg [.lit (.string []), .lit (.int .i64 0), .lit (.int .i64 0)], .agg [.lit (.string [110, 111, 116]), .lit (.int .i64 1), .lit (.int .i64 1)], .agg [.lit (.string [110, 101, 103]), .lit (.int .i64 1), .lit (.int .i64 1)], .agg [.lit (.string [97, 100, 100]), .lit (.int .i64 2), .lit (.int .i64 1)], .agg [.lit (.string [115, 117, 98]), .lit (.int .i64 2), .lit (.int .i64 1)], .agg [.lit (.string [109, 117, 108]), .lit (.int .i64 2), .lit (.int .i64 1)], .agg [.lit (.string [97, 110, 100]), .lit (.int .i64 2), .lit (.int .i64 1)], .agg [.lit (.string [111, 114]), .lit (.int .i64 2), .lit (.int .i64 1)], .agg [.lit (.string [120, 111, 114]), .lit (.int .i64 2), .lit (.int .i64 1)], .agg [.lit (.string [115, 104, 108]), .lit (.int .i64 2), .lit (.int .i64 1)], .agg [.lit (.string [115, 104, 114]), .lit (.int .i64 2), .lit (.int .i64 1)], .agg [.lit (.string [115, 97, 114]), .lit (.int .i64 2), .lit (.int .i64 1)], .agg [.lit (.string [117, 100, 105, 118]), .lit (.int .i64 2), .lit (.int .i64 1)], .agg [.lit (.string [117, 114, 101, 109]), .lit (.int .i64 2), .lit (.int .i64 1)], .agg [.lit (.string [101, 113]), .lit (.int .i64 2), .lit (.int .i64 2)], .agg [.lit (.string [117, 108, 116]), .lit (.int .i64 2), .lit (.int .i64 2)], .agg [.lit (.string [115, 108, 116]), .lit (.int .i64 2), .lit (.int .i64 2)], .agg [.lit (.string [105, 116, 101]), .lit (.int .i64 3), .lit (.int .i64 3)], .agg [.lit (.string [99, 111, 110, 99, 97, 116]), .lit (.int .i64 2), .lit (.int .i64 4)], .agg [.lit (.string [101, 120, 116, 114, 97, 99, 116]), .lit (.int .i64 1), .lit (.int .i64 5)], .agg [.lit (.string [122, 101, 120, 116]), .lit (.int .i64 1), .lit (.int .i64 6)], .agg [.lit (.string [115, 101, 120, 116]), .lit (.int .i64 1), .lit (.int .i64 6)], .agg [.lit (.string [108, 111, 97, 100]), .lit (.int .i64 1), .lit (.int .i64 7)]]

/-- 'retargetlaw08.MachineChecks': WHATEVER THE INPUT: true; the input reads as it did. -/
def machineChecksSpec : ChangeSpec := { name := "machineChecks", fn := fun _ => fun
  | [d1, d2] => { results := [.lit (.bool true)], args := [d1, d2] }
  | _ => none }
def machineChecksRow : OpenClaim := { program := "yteiampdhhigjcaagreatdoor", sum := "61bc3ab83ddc98832c0b72e21c6dc05d8cb3ef593b86e30ad2c31d830fb7cb91", func := "retarget/retargetlaw08.MachineChecks", spec := "machineChecks", unfollowed := true, recurses := true, named := ["retarget/term.shapes"], loops := true, apart := false, laid := [("retarget/term.shapes", laid_retarget_term_shapes)] }
def MachineChecksSaid : Prop := machineChecksRow.holds Tryz.pinned (OpenSpec.ofChange machineChecksSpec)

/-- ITS FALSE NEIGHBOUR: 'it returns false'. Refute it at one input. -/
def machineChecksWrong : ChangeSpec := { name := "machineChecks", fn := fun _ => fun
  | [d1, d2] => { results := [.lit (.bool false)], args := [d1, d2] }
  | _ => none }
def MachineChecksWrongFalsely : Prop := machineChecksRow.holds Tryz.pinned (OpenSpec.ofChange machineChecksWrong)

/-- 'retargetlaw08.MachineParts': WHATEVER THE INPUT: true; the input reads as it did. -/
def machinePartsSpec : ChangeSpec := { name := "machineParts", fn := fun _ => fun
  | [d1, d2, d3, d4] => { results := [.lit (.bool true)], args := [d1, d2, d3, d4] }
  | _ => none }
def machinePartsRow : OpenClaim := { program := "yteiampdhhigjcaagreatdoor", sum := "61bc3ab83ddc98832c0b72e21c6dc05d8cb3ef593b86e30ad2c31d830fb7cb91", func := "retarget/retargetlaw08.MachineParts", spec := "machineParts", unfollowed := true, recurses := true, named := ["retarget/term.shapes"], loops := true, apart := false, laid := [("retarget/term.shapes", laid_retarget_term_shapes)] }
def MachinePartsSaid : Prop := machinePartsRow.holds Tryz.pinned (OpenSpec.ofChange machinePartsSpec)

/-- ITS FALSE NEIGHBOUR: 'it returns false'. Refute it at one input. -/
def machinePartsWrong : ChangeSpec := { name := "machineParts", fn := fun _ => fun
  | [d1, d2, d3, d4] => { results := [.lit (.bool false)], args := [d1, d2, d3, d4] }
  | _ => none }
def MachinePartsWrongFalsely : Prop := machinePartsRow.holds Tryz.pinned (OpenSpec.ofChange machinePartsWrong)

/-- 'retargetlaw08.MachineValues': WHATEVER THE INPUT: true; the input reads as it did. -/
def machineValuesSpec : ChangeSpec := { name := "machineValues", fn := fun _ => fun
  | [d1, d2, d3, d4] => { results := [.lit (.bool true)], args := [d1, d2, d3, d4] }
  | _ => none }
def machineValuesRow : OpenClaim := { program := "yteiampdhhigjcaagreatdoor", sum := "61bc3ab83ddc98832c0b72e21c6dc05d8cb3ef593b86e30ad2c31d830fb7cb91", func := "retarget/retargetlaw08.MachineValues", spec := "machineValues", unfollowed := true, recurses := true, named := ["retarget/term.shapes"], loops := true, apart := false, laid := [("retarget/term.shapes", laid_retarget_term_shapes)] }
def MachineValuesSaid : Prop := machineValuesRow.holds Tryz.pinned (OpenSpec.ofChange machineValuesSpec)

/-- ITS FALSE NEIGHBOUR: 'it returns false'. Refute it at one input. -/
def machineValuesWrong : ChangeSpec := { name := "machineValues", fn := fun _ => fun
  | [d1, d2, d3, d4] => { results := [.lit (.bool false)], args := [d1, d2, d3, d4] }
  | _ => none }
def MachineValuesWrongFalsely : Prop := machineValuesRow.holds Tryz.pinned (OpenSpec.ofChange machineValuesWrong)

/-- 'retargetlaw08.MachineNames': WHATEVER THE INPUT: true; the input reads as it did. -/
def machineNamesSpec : ChangeSpec := { name := "machineNames", fn := fun _ => fun
  | [] => { results := [.lit (.bool true)], args := [] }
  | _ => none }
def machineNamesRow : OpenClaim := { program := "yteiampdhhigjcaagreatdoor", sum := "61bc3ab83ddc98832c0b72e21c6dc05d8cb3ef593b86e30ad2c31d830fb7cb91", func := "retarget/retargetlaw08.MachineNames", spec := "machineNames", unfollowed := true, recurses := true, named := ["retarget/term.shapes"], apart := false, laid := [("retarget/term.shapes", laid_retarget_term_shapes)] }
def MachineNamesSaid : Prop := machineNamesRow.holds Tryz.pinned (OpenSpec.ofChange machineNamesSpec)

/-- ITS FALSE NEIGHBOUR: 'it returns false'. Refute it at one input. -/
def machineNamesWrong : ChangeSpec := { name := "machineNames", fn := fun _ => fun
  | [] => { results := [.lit (.bool false)], args := [] }
  | _ => none }
def MachineNamesWrongFalsely : Prop := machineNamesRow.holds Tryz.pinned (OpenSpec.ofChange machineNamesWrong)

/-- 'retargetlaw08.MachineKeeps': WHATEVER THE INPUT: true; the input reads as it did. -/
def machineKeepsSpec : ChangeSpec := { name := "machineKeeps", fn := fun _ => fun
  | [d1, d2, d3, d4] => { results := [.lit (.bool true)], args := [d1, d2, d3, d4] }
  | _ => none }
def machineKeepsRow : OpenClaim := { program := "yteiampdhhigjcaagreatdoor", sum := "61bc3ab83ddc98832c0b72e21c6dc05d8cb3ef593b86e30ad2c31d830fb7cb91", func := "retarget/retargetlaw08.MachineKeeps", spec := "machineKeeps", unfollowed := true, recurses := true, named := ["retarget/term.shapes"], loops := true, apart := false, laid := [("retarget/term.shapes", laid_retarget_term_shapes)] }
def MachineKeepsSaid : Prop := machineKeepsRow.holds Tryz.pinned (OpenSpec.ofChange machineKeepsSpec)

/-- ITS FALSE NEIGHBOUR: 'it returns false'. Refute it at one input. -/
def machineKeepsWrong : ChangeSpec := { name := "machineKeeps", fn := fun _ => fun
  | [d1, d2, d3, d4] => { results := [.lit (.bool false)], args := [d1, d2, d3, d4] }
  | _ => none }
def MachineKeepsWrongFalsely : Prop := machineKeepsRow.holds Tryz.pinned (OpenSpec.ofChange machineKeepsWrong)

/-- 'retargetlaw08.MachineTwice': WHATEVER THE INPUT: true; the input reads as it did. -/
def machineTwiceSpec : ChangeSpec := { name := "machineTwice", fn := fun _ => fun
  | [d1, d2, d3, d4, d5, d6] => { results := [.lit (.bool true)], args := [d1, d2, d3, d4, d5, d6] }
  | _ => none }
def machineTwiceRow : OpenClaim := { program := "yteiampdhhigjcaagreatdoor", sum := "61bc3ab83ddc98832c0b72e21c6dc05d8cb3ef593b86e30ad2c31d830fb7cb91", func := "retarget/retargetlaw08.MachineTwice", spec := "machineTwice", unfollowed := true, recurses := true, named := ["retarget/term.shapes"], loops := true, apart := false, laid := [("retarget/term.shapes", laid_retarget_term_shapes)] }
def MachineTwiceSaid : Prop := machineTwiceRow.holds Tryz.pinned (OpenSpec.ofChange machineTwiceSpec)

/-- ITS FALSE NEIGHBOUR: 'it returns false'. Refute it at one input. -/
def machineTwiceWrong : ChangeSpec := { name := "machineTwice", fn := fun _ => fun
  | [d1, d2, d3, d4, d5, d6] => { results := [.lit (.bool false)], args := [d1, d2, d3, d4, d5, d6] }
  | _ => none }
def MachineTwiceWrongFalsely : Prop := machineTwiceRow.holds Tryz.pinned (OpenSpec.ofChange machineTwiceWrong)

/-- 'retargetlaw08.MachineOverlaps': WHATEVER THE INPUT: true; the input reads as it did. -/
def machineOverlapsSpec : ChangeSpec := { name := "machineOverlaps", fn := fun _ => fun
  | [d1, d2, d3] => { results := [.lit (.bool true)], args := [d1, d2, d3] }
  | _ => none }
def machineOverlapsRow : OpenClaim := { program := "yteiampdhhigjcaagreatdoor", sum := "61bc3ab83ddc98832c0b72e21c6dc05d8cb3ef593b86e30ad2c31d830fb7cb91", func := "retarget/retargetlaw08.MachineOverlaps", spec := "machineOverlaps", unfollowed := true, recurses := true, named := ["retarget/term.shapes"], loops := true, apart := false, laid := [("retarget/term.shapes", laid_retarget_term_shapes)] }
def MachineOverlapsSaid : Prop := machineOverlapsRow.holds Tryz.pinned (OpenSpec.ofChange machineOverlapsSpec)

/-- ITS FALSE NEIGHBOUR: 'it returns false'. Refute it at one input. -/
def machineOverlapsWrong : ChangeSpec := { name := "machineOverlaps", fn := fun _ => fun
  | [d1, d2, d3] => { results := [.lit (.bool false)], args := [d1, d2, d3] }
  | _ => none }
def MachineOverlapsWrongFalsely : Prop := machineOverlapsRow.holds Tryz.pinned (OpenSpec.ofChange machineOverlapsWrong)

/-- 'retargetlaw08.MachineFields': WHATEVER THE INPUT: true; the input reads as it did. -/
def machineFieldsSpec : ChangeSpec := { name := "machineFields", fn := fun _ => fun
  | [d1, d2, d3, d4] => { results := [.lit (.bool true)], args := [d1, d2, d3, d4] }
  | _ => none }
def machineFieldsRow : OpenClaim := { program := "yteiampdhhigjcaagreatdoor", sum := "61bc3ab83ddc98832c0b72e21c6dc05d8cb3ef593b86e30ad2c31d830fb7cb91", func := "retarget/retargetlaw08.MachineFields", spec := "machineFields", unfollowed := true, recurses := true, named := ["retarget/term.shapes"], loops := true, apart := false, laid := [("retarget/term.shapes", laid_retarget_term_shapes)] }
def MachineFieldsSaid : Prop := machineFieldsRow.holds Tryz.pinned (OpenSpec.ofChange machineFieldsSpec)

/-- ITS FALSE NEIGHBOUR: 'it returns false'. Refute it at one input. -/
def machineFieldsWrong : ChangeSpec := { name := "machineFields", fn := fun _ => fun
  | [d1, d2, d3, d4] => { results := [.lit (.bool false)], args := [d1, d2, d3, d4] }
  | _ => none }
def MachineFieldsWrongFalsely : Prop := machineFieldsRow.holds Tryz.pinned (OpenSpec.ofChange machineFieldsWrong)

/- THE SECOND FORM. 'bulk': how many values and letters a reading holds, each counted each time it is reached (what is shared counts as often as it is met; a slice's spare places count too). A statement '..UptoSaid' is the law's where the arguments, and the package variables that the reading takes, are together of bulk at most 1048576: NARROWER than '..Said'. Prove '..Said' where nothing that the law and all that it calls make is longer than what came in: it says more and counts as full. Else prove '..UptoSaid'. A law counts once. -/
mutual
def uptoBulk {H : Type} : DataW H → Nat
  | .lit (.string bytes) => bytes.length + 1
  | .lit _ => 1
  | .nil => 1
  | .ptr d => uptoBulk d + 1
  | .slice elems spare => uptoBulkAll elems + uptoBulkAll spare + 1
  | .agg parts => uptoBulkAll parts + 1
  | .iface _ d => uptoBulk d + 1
  | .map entries => uptoBulkEntries entries + 1
  | .held _ => 1
def uptoBulkAll {H : Type} : List (DataW H) → Nat
  | [] => 0
  | d :: r => uptoBulk d + uptoBulkAll r
def uptoBulkEntries {H : Type} : List (Lit × DataW H) → Nat
  | [] => 0
  | x :: r => uptoBulkEntry x + uptoBulkEntries r
def uptoBulkEntry {H : Type} : Lit × DataW H → Nat
  | (.string bytes, d) => bytes.length + uptoBulk d + 1
  | (_, d) => uptoBulk d + 1
 end
def uptoSmall : (H : Type) → List (DataW H) → Bool := fun _ ds => decide (uptoBulkAll ds ≤ 1048576)
def OpenSpec.upto (s : _root_.Go.ChangeSpec) : _root_.Go.OpenSpec := { _root_.Go.OpenSpec.ofChange s with cond := some uptoSmall }

/-- 'retargetlaw08.MachineChecks', WHERE WHAT IT READS IS OF BULK AT MOST 1048576: true; the input reads as it did. -/
def machineChecksUptoRow : OpenClaim := { program := "yteiampdhhigjcaagreatdoor", sum := "61bc3ab83ddc98832c0b72e21c6dc05d8cb3ef593b86e30ad2c31d830fb7cb91", func := "retarget/retargetlaw08.MachineChecks", spec := "machineChecks", unfollowed := true, recurses := true, named := ["retarget/term.shapes"], loops := true, apart := false, laid := [("retarget/term.shapes", laid_retarget_term_shapes)], narrowed := true }
def MachineChecksUptoSaid : Prop := machineChecksUptoRow.holds Tryz.pinned (OpenSpec.upto machineChecksSpec)

/-- 'retargetlaw08.MachineParts', WHERE WHAT IT READS IS OF BULK AT MOST 1048576: true; the input reads as it did. -/
def machinePartsUptoRow : OpenClaim := { program := "yteiampdhhigjcaagreatdoor", sum := "61bc3ab83ddc98832c0b72e21c6dc05d8cb3ef593b86e30ad2c31d830fb7cb91", func := "retarget/retargetlaw08.MachineParts", spec := "machineParts", unfollowed := true, recurses := true, named := ["retarget/term.shapes"], loops := true, apart := false, laid := [("retarget/term.shapes", laid_retarget_term_shapes)], narrowed := true }
def MachinePartsUptoSaid : Prop := machinePartsUptoRow.holds Tryz.pinned (OpenSpec.upto machinePartsSpec)

/-- 'retargetlaw08.MachineValues', WHERE WHAT IT READS IS OF BULK AT MOST 1048576: true; the input reads as it did. -/
def machineValuesUptoRow : OpenClaim := { program := "yteiampdhhigjcaagreatdoor", sum := "61bc3ab83ddc98832c0b72e21c6dc05d8cb3ef593b86e30ad2c31d830fb7cb91", func := "retarget/retargetlaw08.MachineValues", spec := "machineValues", unfollowed := true, recurses := true, named := ["retarget/term.shapes"], loops := true, apart := false, laid := [("retarget/term.shapes", laid_retarget_term_shapes)], narrowed := true }
def MachineValuesUptoSaid : Prop := machineValuesUptoRow.holds Tryz.pinned (OpenSpec.upto machineValuesSpec)

/-- 'retargetlaw08.MachineNames', WHERE WHAT IT READS IS OF BULK AT MOST 1048576: true; the input reads as it did. -/
def machineNamesUptoRow : OpenClaim := { program := "yteiampdhhigjcaagreatdoor", sum := "61bc3ab83ddc98832c0b72e21c6dc05d8cb3ef593b86e30ad2c31d830fb7cb91", func := "retarget/retargetlaw08.MachineNames", spec := "machineNames", unfollowed := true, recurses := true, named := ["retarget/term.shapes"], apart := false, laid := [("retarget/term.shapes", laid_retarget_term_shapes)], narrowed := true }
def MachineNamesUptoSaid : Prop := machineNamesUptoRow.holds Tryz.pinned (OpenSpec.upto machineNamesSpec)

/-- 'retargetlaw08.MachineKeeps', WHERE WHAT IT READS IS OF BULK AT MOST 1048576: true; the input reads as it did. -/
def machineKeepsUptoRow : OpenClaim := { program := "yteiampdhhigjcaagreatdoor", sum := "61bc3ab83ddc98832c0b72e21c6dc05d8cb3ef593b86e30ad2c31d830fb7cb91", func := "retarget/retargetlaw08.MachineKeeps", spec := "machineKeeps", unfollowed := true, recurses := true, named := ["retarget/term.shapes"], loops := true, apart := false, laid := [("retarget/term.shapes", laid_retarget_term_shapes)], narrowed := true }
def MachineKeepsUptoSaid : Prop := machineKeepsUptoRow.holds Tryz.pinned (OpenSpec.upto machineKeepsSpec)

/-- 'retargetlaw08.MachineTwice', WHERE WHAT IT READS IS OF BULK AT MOST 1048576: true; the input reads as it did. -/
def machineTwiceUptoRow : OpenClaim := { program := "yteiampdhhigjcaagreatdoor", sum := "61bc3ab83ddc98832c0b72e21c6dc05d8cb3ef593b86e30ad2c31d830fb7cb91", func := "retarget/retargetlaw08.MachineTwice", spec := "machineTwice", unfollowed := true, recurses := true, named := ["retarget/term.shapes"], loops := true, apart := false, laid := [("retarget/term.shapes", laid_retarget_term_shapes)], narrowed := true }
def MachineTwiceUptoSaid : Prop := machineTwiceUptoRow.holds Tryz.pinned (OpenSpec.upto machineTwiceSpec)

/-- 'retargetlaw08.MachineOverlaps', WHERE WHAT IT READS IS OF BULK AT MOST 1048576: true; the input reads as it did. -/
def machineOverlapsUptoRow : OpenClaim := { program := "yteiampdhhigjcaagreatdoor", sum := "61bc3ab83ddc98832c0b72e21c6dc05d8cb3ef593b86e30ad2c31d830fb7cb91", func := "retarget/retargetlaw08.MachineOverlaps", spec := "machineOverlaps", unfollowed := true, recurses := true, named := ["retarget/term.shapes"], loops := true, apart := false, laid := [("retarget/term.shapes", laid_retarget_term_shapes)], narrowed := true }
def MachineOverlapsUptoSaid : Prop := machineOverlapsUptoRow.holds Tryz.pinned (OpenSpec.upto machineOverlapsSpec)

/-- 'retargetlaw08.MachineFields', WHERE WHAT IT READS IS OF BULK AT MOST 1048576: true; the input reads as it did. -/
def machineFieldsUptoRow : OpenClaim := { program := "yteiampdhhigjcaagreatdoor", sum := "61bc3ab83ddc98832c0b72e21c6dc05d8cb3ef593b86e30ad2c31d830fb7cb91", func := "retarget/retargetlaw08.MachineFields", spec := "machineFields", unfollowed := true, recurses := true, named := ["retarget/term.shapes"], loops := true, apart := false, laid := [("retarget/term.shapes", laid_retarget_term_shapes)], narrowed := true }
def MachineFieldsUptoSaid : Prop := machineFieldsUptoRow.holds Tryz.pinned (OpenSpec.upto machineFieldsSpec)

end Rows
end Go.Proofs.YteiampdhhigjcaaGreatDoor

/-
  DERIVED. GIVEN WITH THE SEED: THE CARDS: each row of YteiampdhhigjcaaDoorRows.lean that lists a variable, with what it lists TIED to the program's text (the seventh form; the later family's looks); each row that meets fmt, with fmt's text TOLD by the authors' own Lean function (tested against real Go, not proved from fmt's source: count such statements apart). THE CARD IS WHAT COUNTS. Prove the row's statement (the work); the ties are given (YteiampdhhigjcaaDoorTie.lean); close each card by the builder's one call (the guide's Derived/Test/ToyasCard.lean, 'card_holds'). Laid BY PROGRAM, IN A SANDBOX (cutbox-door.mjs). By AI agents, Wed Nov 11 2026. No macro, syntax, notation, axiom, sorry.
-/
import Derived.Test.YteiampdhhigjcaaDoorRows
import GoSem.ClaimSeven
namespace Go.Proofs.YteiampdhhigjcaaDoor
namespace Rows

/-- THE TIED CARD OF 'retargetlaw08.MachineOps'. -/
def machineOpsCard : Claim7 := { stood := { row := machineOpsRow, standIns := [], harness := (true, "9dea0650b46a856fe12b15e214e8c6c3ef756a19786fb317727709cbc9144ce3"), looks := false }, kinds := [], alts := [], laidByText := true, laidKinds := [.data], laidTests := true, laidLooks := .later }
def MachineOpsCardSaid : Prop := Claim7.holds Tryd.pinned (.plain (OpenSpec.ofChange machineOpsSpec)) machineOpsCard

/-- THE SECOND FORM's CARD OF 'retargetlaw08.MachineOps'. -/
def machineOpsUptoCard : Claim7 := { stood := { row := machineOpsUptoRow, standIns := [], harness := (true, "9dea0650b46a856fe12b15e214e8c6c3ef756a19786fb317727709cbc9144ce3"), looks := false }, kinds := [], alts := [], laidByText := true, laidKinds := [.data], laidTests := true, laidLooks := .later }
def MachineOpsUptoCardSaid : Prop := Claim7.holds Tryd.pinned (.plain (OpenSpec.upto machineOpsSpec)) machineOpsUptoCard
end Rows
end Go.Proofs.YteiampdhhigjcaaDoor

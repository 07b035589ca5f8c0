/-
  DERIVED. GIVEN WITH THE SEED: THE CARDS: each row of YteiampdhhigjcaaGreatDoorRows.lean that lists a variable, with what it lists TIED to the program's text (the seventh form; the later family's looks); each row that meets fmt, with fmt's text TOLD by the authors' own Lean function (tested against real Go, not proved from fmt's source: count such statements apart). THE CARD IS WHAT COUNTS. Prove the row's statement (the work); the ties are given (YteiampdhhigjcaaGreatDoorTie.lean); close each card by the builder's one call (the guide's Derived/Test/ToyasCard.lean, 'card_holds'). Laid BY PROGRAM, IN A SANDBOX (cutbox-door.mjs). By AI agents, Wed Nov 11 2026. No macro, syntax, notation, axiom, sorry.
-/
import Derived.Test.YteiampdhhigjcaaGreatDoorRows
import GoSem.ClaimSeven
namespace Go.Proofs.YteiampdhhigjcaaGreatDoor
namespace Rows

/-- THE TIED CARD OF 'retargetlaw08.MachineChecks'. -/
def machineChecksCard : Claim7 := { stood := { row := machineChecksRow, standIns := [], harness := (true, "ecb66394fd0c6e9a9a5dd49eb74493de2ac36e01d9ecfa3f5927726cebdaaa5a"), looks := false }, kinds := [], alts := [], laidByText := true, laidKinds := [.data], laidTests := true, laidLooks := .later }
def MachineChecksCardSaid : Prop := Claim7.holds Tryz.pinned (.plain (OpenSpec.ofChange machineChecksSpec)) machineChecksCard

/-- THE TIED CARD OF 'retargetlaw08.MachineParts'. -/
def machinePartsCard : Claim7 := { stood := { row := machinePartsRow, standIns := [], harness := (true, "ecb66394fd0c6e9a9a5dd49eb74493de2ac36e01d9ecfa3f5927726cebdaaa5a"), looks := false }, kinds := [], alts := [], laidByText := true, laidKinds := [.data], laidTests := true, laidLooks := .later }
def MachinePartsCardSaid : Prop := Claim7.holds Tryz.pinned (.plain (OpenSpec.ofChange machinePartsSpec)) machinePartsCard

/-- THE TIED CARD OF 'retargetlaw08.MachineValues'. -/
def machineValuesCard : Claim7 := { stood := { row := machineValuesRow, standIns := [], harness := (true, "ecb66394fd0c6e9a9a5dd49eb74493de2ac36e01d9ecfa3f5927726cebdaaa5a"), looks := false }, kinds := [], alts := [], laidByText := true, laidKinds := [.data], laidTests := true, laidLooks := .later }
def MachineValuesCardSaid : Prop := Claim7.holds Tryz.pinned (.plain (OpenSpec.ofChange machineValuesSpec)) machineValuesCard

/-- THE TIED CARD OF 'retargetlaw08.MachineNames'. -/
def machineNamesCard : Claim7 := { stood := { row := machineNamesRow, standIns := [], harness := (true, "ecb66394fd0c6e9a9a5dd49eb74493de2ac36e01d9ecfa3f5927726cebdaaa5a"), looks := false }, kinds := [], alts := [], laidByText := true, laidKinds := [.data], laidTests := true, laidLooks := .later }
def MachineNamesCardSaid : Prop := Claim7.holds Tryz.pinned (.plain (OpenSpec.ofChange machineNamesSpec)) machineNamesCard

/-- THE TIED CARD OF 'retargetlaw08.MachineKeeps'. -/
def machineKeepsCard : Claim7 := { stood := { row := machineKeepsRow, standIns := [], harness := (true, "ecb66394fd0c6e9a9a5dd49eb74493de2ac36e01d9ecfa3f5927726cebdaaa5a"), looks := false }, kinds := [], alts := [], laidByText := true, laidKinds := [.data], laidTests := true, laidLooks := .later }
def MachineKeepsCardSaid : Prop := Claim7.holds Tryz.pinned (.plain (OpenSpec.ofChange machineKeepsSpec)) machineKeepsCard

/-- THE TIED CARD OF 'retargetlaw08.MachineTwice'. -/
def machineTwiceCard : Claim7 := { stood := { row := machineTwiceRow, standIns := [], harness := (true, "ecb66394fd0c6e9a9a5dd49eb74493de2ac36e01d9ecfa3f5927726cebdaaa5a"), looks := false }, kinds := [], alts := [], laidByText := true, laidKinds := [.data], laidTests := true, laidLooks := .later }
def MachineTwiceCardSaid : Prop := Claim7.holds Tryz.pinned (.plain (OpenSpec.ofChange machineTwiceSpec)) machineTwiceCard

/-- THE TIED CARD OF 'retargetlaw08.MachineOverlaps'. -/
def machineOverlapsCard : Claim7 := { stood := { row := machineOverlapsRow, standIns := [], harness := (true, "ecb66394fd0c6e9a9a5dd49eb74493de2ac36e01d9ecfa3f5927726cebdaaa5a"), looks := false }, kinds := [], alts := [], laidByText := true, laidKinds := [.data], laidTests := true, laidLooks := .later }
def MachineOverlapsCardSaid : Prop := Claim7.holds Tryz.pinned (.plain (OpenSpec.ofChange machineOverlapsSpec)) machineOverlapsCard

/-- THE TIED CARD OF 'retargetlaw08.MachineFields'. -/
def machineFieldsCard : Claim7 := { stood := { row := machineFieldsRow, standIns := [], harness := (true, "ecb66394fd0c6e9a9a5dd49eb74493de2ac36e01d9ecfa3f5927726cebdaaa5a"), looks := false }, kinds := [], alts := [], laidByText := true, laidKinds := [.data], laidTests := true, laidLooks := .later }
def MachineFieldsCardSaid : Prop := Claim7.holds Tryz.pinned (.plain (OpenSpec.ofChange machineFieldsSpec)) machineFieldsCard

/-- THE SECOND FORM's CARD OF 'retargetlaw08.MachineChecks'. -/
def machineChecksUptoCard : Claim7 := { stood := { row := machineChecksUptoRow, standIns := [], harness := (true, "ecb66394fd0c6e9a9a5dd49eb74493de2ac36e01d9ecfa3f5927726cebdaaa5a"), looks := false }, kinds := [], alts := [], laidByText := true, laidKinds := [.data], laidTests := true, laidLooks := .later }
def MachineChecksUptoCardSaid : Prop := Claim7.holds Tryz.pinned (.plain (OpenSpec.upto machineChecksSpec)) machineChecksUptoCard

/-- THE SECOND FORM's CARD OF 'retargetlaw08.MachineParts'. -/
def machinePartsUptoCard : Claim7 := { stood := { row := machinePartsUptoRow, standIns := [], harness := (true, "ecb66394fd0c6e9a9a5dd49eb74493de2ac36e01d9ecfa3f5927726cebdaaa5a"), looks := false }, kinds := [], alts := [], laidByText := true, laidKinds := [.data], laidTests := true, laidLooks := .later }
def MachinePartsUptoCardSaid : Prop := Claim7.holds Tryz.pinned (.plain (OpenSpec.upto machinePartsSpec)) machinePartsUptoCard

/-- THE SECOND FORM's CARD OF 'retargetlaw08.MachineValues'. -/
def machineValuesUptoCard : Claim7 := { stood := { row := machineValuesUptoRow, standIns := [], harness := (true, "ecb66394fd0c6e9a9a5dd49eb74493de2ac36e01d9ecfa3f5927726cebdaaa5a"), looks := false }, kinds := [], alts := [], laidByText := true, laidKinds := [.data], laidTests := true, laidLooks := .later }
def MachineValuesUptoCardSaid : Prop := Claim7.holds Tryz.pinned (.plain (OpenSpec.upto machineValuesSpec)) machineValuesUptoCard

/-- THE SECOND FORM's CARD OF 'retargetlaw08.MachineNames'. -/
def machineNamesUptoCard : Claim7 := { stood := { row := machineNamesUptoRow, standIns := [], harness := (true, "ecb66394fd0c6e9a9a5dd49eb74493de2ac36e01d9ecfa3f5927726cebdaaa5a"), looks := false }, kinds := [], alts := [], laidByText := true, laidKinds := [.data], laidTests := true, laidLooks := .later }
def MachineNamesUptoCardSaid : Prop := Claim7.holds Tryz.pinned (.plain (OpenSpec.upto machineNamesSpec)) machineNamesUptoCard

/-- THE SECOND FORM's CARD OF 'retargetlaw08.MachineKeeps'. -/
def machineKeepsUptoCard : Claim7 := { stood := { row := machineKeepsUptoRow, standIns := [], harness := (true, "ecb66394fd0c6e9a9a5dd49eb74493de2ac36e01d9ecfa3f5927726cebdaaa5a"), looks := false }, kinds := [], alts := [], laidByText := true, laidKinds := [.data], laidTests := true, laidLooks := .later }
def MachineKeepsUptoCardSaid : Prop := Claim7.holds Tryz.pinned (.plain (OpenSpec.upto machineKeepsSpec)) machineKeepsUptoCard

/-- THE SECOND FORM's CARD OF 'retargetlaw08.MachineTwice'. -/
def machineTwiceUptoCard : Claim7 := { stood := { row := machineTwiceUptoRow, standIns := [], harness := (true, "ecb66394fd0c6e9a9a5dd49eb74493de2ac36e01d9ecfa3f5927726cebdaaa5a"), looks := false }, kinds := [], alts := [], laidByText := true, laidKinds := [.data], laidTests := true, laidLooks := .later }
def MachineTwiceUptoCardSaid : Prop := Claim7.holds Tryz.pinned (.plain (OpenSpec.upto machineTwiceSpec)) machineTwiceUptoCard

/-- THE SECOND FORM's CARD OF 'retargetlaw08.MachineOverlaps'. -/
def machineOverlapsUptoCard : Claim7 := { stood := { row := machineOverlapsUptoRow, standIns := [], harness := (true, "ecb66394fd0c6e9a9a5dd49eb74493de2ac36e01d9ecfa3f5927726cebdaaa5a"), looks := false }, kinds := [], alts := [], laidByText := true, laidKinds := [.data], laidTests := true, laidLooks := .later }
def MachineOverlapsUptoCardSaid : Prop := Claim7.holds Tryz.pinned (.plain (OpenSpec.upto machineOverlapsSpec)) machineOverlapsUptoCard

/-- THE SECOND FORM's CARD OF 'retargetlaw08.MachineFields'. -/
def machineFieldsUptoCard : Claim7 := { stood := { row := machineFieldsUptoRow, standIns := [], harness := (true, "ecb66394fd0c6e9a9a5dd49eb74493de2ac36e01d9ecfa3f5927726cebdaaa5a"), looks := false }, kinds := [], alts := [], laidByText := true, laidKinds := [.data], laidTests := true, laidLooks := .later }
def MachineFieldsUptoCardSaid : Prop := Claim7.holds Tryz.pinned (.plain (OpenSpec.upto machineFieldsSpec)) machineFieldsUptoCard
end Rows
end Go.Proofs.YteiampdhhigjcaaGreatDoor

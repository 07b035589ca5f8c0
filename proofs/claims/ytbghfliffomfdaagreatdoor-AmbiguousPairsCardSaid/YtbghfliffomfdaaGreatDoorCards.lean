/-
  DERIVED. GIVEN WITH THE SEED: THE CARDS: each row of YtbghfliffomfdaaGreatDoorRows.lean that lists a variable, with what it lists TIED to the program's text (the seventh form; the later family's looks); each row that meets fmt, with fmt's text TOLD by the authors' own Lean function (tested against real Go, not proved from fmt's source: count such statements apart). THE CARD IS WHAT COUNTS. Prove the row's statement (the work); the ties are given (YtbghfliffomfdaaGreatDoorTie.lean); close each card by the builder's one call (the guide's Derived/Test/ToyasCard.lean, 'card_holds'). Laid BY PROGRAM, IN A SANDBOX (cutbox-door.mjs). By AI agents, Wed Nov 11 2026. No macro, syntax, notation, axiom, sorry.
-/
import Derived.Test.YtbghfliffomfdaaGreatDoorRows
import GoSem.ClaimSeven
namespace Go.Proofs.YtbghfliffomfdaaGreatDoor
namespace Rows

/-- THE TIED CARD OF 'retargetlaw11.AmbiguousTells'. -/
def ambiguousTellsCard : Claim7 := { stood := { row := ambiguousTellsRow, standIns := [], harness := (true, "8e333f40befe0e4c634bf384f52b9c2a53fe1483dfbc1b2a07173c1fcc1854e0"), looks := false }, kinds := [], alts := [], laidByText := true, laidKinds := [.data], laidTests := true, laidLooks := .later }
def AmbiguousTellsCardSaid : Prop := Claim7.holds Tryz.pinned (.plain (OpenSpec.ofChange ambiguousTellsSpec)) ambiguousTellsCard

/-- THE TIED CARD OF 'retargetlaw11.AmbiguousPairs'. -/
def ambiguousPairsCard : Claim7 := { stood := { row := ambiguousPairsRow, standIns := [], harness := (true, "8e333f40befe0e4c634bf384f52b9c2a53fe1483dfbc1b2a07173c1fcc1854e0"), looks := false }, kinds := [], alts := [], laidByText := true, laidKinds := [.data], laidTests := true, laidLooks := .later }
def AmbiguousPairsCardSaid : Prop := Claim7.holds Tryz.pinned (.plain (OpenSpec.ofChange ambiguousPairsSpec)) ambiguousPairsCard

/-- THE TIED CARD OF 'retargetlaw11.AmbiguousHoles'. -/
def ambiguousHolesCard : Claim7 := { stood := { row := ambiguousHolesRow, standIns := [], harness := (true, "8e333f40befe0e4c634bf384f52b9c2a53fe1483dfbc1b2a07173c1fcc1854e0"), looks := false }, kinds := [], alts := [], laidByText := true, laidKinds := [.data], laidTests := true, laidLooks := .later }
def AmbiguousHolesCardSaid : Prop := Claim7.holds Tryz.pinned (.plain (OpenSpec.ofChange ambiguousHolesSpec)) ambiguousHolesCard

/-- THE SECOND FORM's CARD OF 'retargetlaw11.AmbiguousTells'. -/
def ambiguousTellsUptoCard : Claim7 := { stood := { row := ambiguousTellsUptoRow, standIns := [], harness := (true, "8e333f40befe0e4c634bf384f52b9c2a53fe1483dfbc1b2a07173c1fcc1854e0"), looks := false }, kinds := [], alts := [], laidByText := true, laidKinds := [.data], laidTests := true, laidLooks := .later }
def AmbiguousTellsUptoCardSaid : Prop := Claim7.holds Tryz.pinned (.plain (OpenSpec.upto ambiguousTellsSpec)) ambiguousTellsUptoCard

/-- THE SECOND FORM's CARD OF 'retargetlaw11.AmbiguousPairs'. -/
def ambiguousPairsUptoCard : Claim7 := { stood := { row := ambiguousPairsUptoRow, standIns := [], harness := (true, "8e333f40befe0e4c634bf384f52b9c2a53fe1483dfbc1b2a07173c1fcc1854e0"), looks := false }, kinds := [], alts := [], laidByText := true, laidKinds := [.data], laidTests := true, laidLooks := .later }
def AmbiguousPairsUptoCardSaid : Prop := Claim7.holds Tryz.pinned (.plain (OpenSpec.upto ambiguousPairsSpec)) ambiguousPairsUptoCard

/-- THE SECOND FORM's CARD OF 'retargetlaw11.AmbiguousHoles'. -/
def ambiguousHolesUptoCard : Claim7 := { stood := { row := ambiguousHolesUptoRow, standIns := [], harness := (true, "8e333f40befe0e4c634bf384f52b9c2a53fe1483dfbc1b2a07173c1fcc1854e0"), looks := false }, kinds := [], alts := [], laidByText := true, laidKinds := [.data], laidTests := true, laidLooks := .later }
def AmbiguousHolesUptoCardSaid : Prop := Claim7.holds Tryz.pinned (.plain (OpenSpec.upto ambiguousHolesSpec)) ambiguousHolesUptoCard
end Rows
end Go.Proofs.YtbghfliffomfdaaGreatDoor

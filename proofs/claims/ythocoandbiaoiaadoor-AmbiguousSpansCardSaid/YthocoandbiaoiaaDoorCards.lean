/-
  DERIVED. GIVEN WITH THE SEED: THE CARDS: each row of YthocoandbiaoiaaDoorRows.lean that lists a variable, with what it lists TIED to the program's text (the seventh form; the later family's looks); each row that meets fmt, with fmt's text TOLD by the authors' own Lean function (tested against real Go, not proved from fmt's source: count such statements apart). THE CARD IS WHAT COUNTS. Prove the row's statement (the work); the ties are given (YthocoandbiaoiaaDoorTie.lean); close each card by the builder's one call (the guide's Derived/Test/ToyasCard.lean, 'card_holds'). Laid BY PROGRAM, IN A SANDBOX (cutbox-door.mjs). By AI agents, Wed Nov 11 2026. No macro, syntax, notation, axiom, sorry.
-/
import Derived.Test.YthocoandbiaoiaaDoorRows
import GoSem.ClaimSeven
namespace Go.Proofs.YthocoandbiaoiaaDoor
namespace Rows

/-- THE TIED CARD OF 'retargetlaw11.AmbiguousAll'. -/
def ambiguousAllCard : Claim7 := { stood := { row := ambiguousAllRow, standIns := [], harness := (true, "b5424b124abc99add7d73615cdfe442d05061fa3d988555ac94a508397f516a7"), looks := false }, kinds := [], alts := [], laidByText := true, laidKinds := [.data], laidTests := true, laidLooks := .later }
def AmbiguousAllCardSaid : Prop := Claim7.holds Tryd.pinned (.plain (OpenSpec.ofChange ambiguousAllSpec)) ambiguousAllCard

/-- THE TIED CARD OF 'retargetlaw11.AmbiguousSpans'. -/
def ambiguousSpansCard : Claim7 := { stood := { row := ambiguousSpansRow, standIns := [], harness := (true, "b5424b124abc99add7d73615cdfe442d05061fa3d988555ac94a508397f516a7"), looks := false }, kinds := [], alts := [], laidByText := true, laidKinds := [.data], laidTests := true, laidLooks := .later }
def AmbiguousSpansCardSaid : Prop := Claim7.holds Tryd.pinned (.plain (OpenSpec.ofChange ambiguousSpansSpec)) ambiguousSpansCard

/-- THE TIED CARD OF 'retargetlaw11.AmbiguousSelf'. -/
def ambiguousSelfCard : Claim7 := { stood := { row := ambiguousSelfRow, standIns := [], harness := (true, "b5424b124abc99add7d73615cdfe442d05061fa3d988555ac94a508397f516a7"), looks := false }, kinds := [], alts := [], laidByText := true, laidKinds := [.data], laidTests := true, laidLooks := .later }
def AmbiguousSelfCardSaid : Prop := Claim7.holds Tryd.pinned (.plain (OpenSpec.ofChange ambiguousSelfSpec)) ambiguousSelfCard

/-- THE TIED CARD OF 'retargetlaw11.AmbiguousOwners'. -/
def ambiguousOwnersCard : Claim7 := { stood := { row := ambiguousOwnersRow, standIns := [], harness := (true, "b5424b124abc99add7d73615cdfe442d05061fa3d988555ac94a508397f516a7"), looks := false }, kinds := [], alts := [], laidByText := true, laidKinds := [.data], laidTests := true, laidLooks := .later }
def AmbiguousOwnersCardSaid : Prop := Claim7.holds Tryd.pinned (.plain (OpenSpec.ofChange ambiguousOwnersSpec)) ambiguousOwnersCard

/-- THE TIED CARD OF 'retargetlaw12.EncodeBytes'. -/
def encodeBytesCard : Claim7 := { stood := { row := encodeBytesRow, standIns := [], harness := (true, "b5424b124abc99add7d73615cdfe442d05061fa3d988555ac94a508397f516a7"), looks := false }, kinds := [], alts := [], laidByText := true, laidKinds := [.data], laidTests := true, laidLooks := .later }
def EncodeBytesCardSaid : Prop := Claim7.holds Tryd.pinned (.plain (OpenSpec.ofChange encodeBytesSpec)) encodeBytesCard

/-- THE SECOND FORM's CARD OF 'retargetlaw11.AmbiguousAll'. -/
def ambiguousAllUptoCard : Claim7 := { stood := { row := ambiguousAllUptoRow, standIns := [], harness := (true, "b5424b124abc99add7d73615cdfe442d05061fa3d988555ac94a508397f516a7"), looks := false }, kinds := [], alts := [], laidByText := true, laidKinds := [.data], laidTests := true, laidLooks := .later }
def AmbiguousAllUptoCardSaid : Prop := Claim7.holds Tryd.pinned (.plain (OpenSpec.upto ambiguousAllSpec)) ambiguousAllUptoCard

/-- THE SECOND FORM's CARD OF 'retargetlaw11.AmbiguousSpans'. -/
def ambiguousSpansUptoCard : Claim7 := { stood := { row := ambiguousSpansUptoRow, standIns := [], harness := (true, "b5424b124abc99add7d73615cdfe442d05061fa3d988555ac94a508397f516a7"), looks := false }, kinds := [], alts := [], laidByText := true, laidKinds := [.data], laidTests := true, laidLooks := .later }
def AmbiguousSpansUptoCardSaid : Prop := Claim7.holds Tryd.pinned (.plain (OpenSpec.upto ambiguousSpansSpec)) ambiguousSpansUptoCard

/-- THE SECOND FORM's CARD OF 'retargetlaw11.AmbiguousSelf'. -/
def ambiguousSelfUptoCard : Claim7 := { stood := { row := ambiguousSelfUptoRow, standIns := [], harness := (true, "b5424b124abc99add7d73615cdfe442d05061fa3d988555ac94a508397f516a7"), looks := false }, kinds := [], alts := [], laidByText := true, laidKinds := [.data], laidTests := true, laidLooks := .later }
def AmbiguousSelfUptoCardSaid : Prop := Claim7.holds Tryd.pinned (.plain (OpenSpec.upto ambiguousSelfSpec)) ambiguousSelfUptoCard

/-- THE SECOND FORM's CARD OF 'retargetlaw11.AmbiguousOwners'. -/
def ambiguousOwnersUptoCard : Claim7 := { stood := { row := ambiguousOwnersUptoRow, standIns := [], harness := (true, "b5424b124abc99add7d73615cdfe442d05061fa3d988555ac94a508397f516a7"), looks := false }, kinds := [], alts := [], laidByText := true, laidKinds := [.data], laidTests := true, laidLooks := .later }
def AmbiguousOwnersUptoCardSaid : Prop := Claim7.holds Tryd.pinned (.plain (OpenSpec.upto ambiguousOwnersSpec)) ambiguousOwnersUptoCard

/-- THE SECOND FORM's CARD OF 'retargetlaw12.EncodeBytes'. -/
def encodeBytesUptoCard : Claim7 := { stood := { row := encodeBytesUptoRow, standIns := [], harness := (true, "b5424b124abc99add7d73615cdfe442d05061fa3d988555ac94a508397f516a7"), looks := false }, kinds := [], alts := [], laidByText := true, laidKinds := [.data], laidTests := true, laidLooks := .later }
def EncodeBytesUptoCardSaid : Prop := Claim7.holds Tryd.pinned (.plain (OpenSpec.upto encodeBytesSpec)) encodeBytesUptoCard
end Rows
end Go.Proofs.YthocoandbiaoiaaDoor

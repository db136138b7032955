/-
  DERIVED. GIVEN WITH THE SEED: THE CARDS: each row of YtnilfndadahgaaaDoorRows.lean that lists a variable, with what it lists TIED to the program's text (the seventh form; the later family's looks); each row that meets fmt, with fmt's text TOLD by the authors' own Lean function (tested against real Go, not proved from fmt's source: count such statements apart). THE CARD IS WHAT COUNTS. Prove the row's statement (the work); the ties are given (YtnilfndadahgaaaDoorTie.lean); close each card by the builder's one call (the guide's Derived/Test/ToyasCard.lean, 'card_holds'). Laid BY PROGRAM, IN A SANDBOX (cutbox-door.mjs). By AI agents, Wed Nov 11 2026. No macro, syntax, notation, axiom, sorry.
-/
import Derived.Test.YtnilfndadahgaaaDoorRows
import GoSem.ClaimSeven
namespace Go.Proofs.YtnilfndadahgaaaDoor
namespace Rows

/-- THE TIED CARD OF 'steelyardlaw06.WholeTells'. -/
def wholeTellsCard : Claim7 := { stood := { row := wholeTellsRow, standIns := [], harness := (true, "2b3c423332d0deba1a787e633641c1c2565a43613a63edac81f3ed68374c8900"), looks := false }, kinds := [], alts := [], laidByText := true, laidKinds := [.data], laidTests := true, laidLooks := .later }
def WholeTellsCardSaid : Prop := Claim7.holds Tryd.pinned (.plain (OpenSpec.ofChange wholeTellsSpec)) wholeTellsCard

/-- THE TIED CARD OF 'steelyardlaw06.WholeLaws'. -/
def wholeLawsCard : Claim7 := { stood := { row := wholeLawsRow, standIns := [], harness := (true, "2b3c423332d0deba1a787e633641c1c2565a43613a63edac81f3ed68374c8900"), looks := false }, kinds := [], alts := [], laidByText := true, laidKinds := [.data], laidTests := true, laidLooks := .later }
def WholeLawsCardSaid : Prop := Claim7.holds Tryd.pinned (.plain (OpenSpec.ofChange wholeLawsSpec)) wholeLawsCard

/-- THE TIED CARD OF 'steelyardlaw06.WholeOrder'. -/
def wholeOrderCard : Claim7 := { stood := { row := wholeOrderRow, standIns := [], harness := (true, "2b3c423332d0deba1a787e633641c1c2565a43613a63edac81f3ed68374c8900"), looks := false }, kinds := [], alts := [], laidByText := true, laidKinds := [.data], laidTests := true, laidLooks := .later }
def WholeOrderCardSaid : Prop := Claim7.holds Tryd.pinned (.plain (OpenSpec.ofChange wholeOrderSpec)) wholeOrderCard

/-- THE TIED CARD OF 'steelyardlaw06.WholeSigns'. -/
def wholeSignsCard : Claim7 := { stood := { row := wholeSignsRow, standIns := [], harness := (true, "2b3c423332d0deba1a787e633641c1c2565a43613a63edac81f3ed68374c8900"), looks := false }, kinds := [], alts := [], laidByText := true, laidKinds := [.data], laidTests := true, laidLooks := .later }
def WholeSignsCardSaid : Prop := Claim7.holds Tryd.pinned (.plain (OpenSpec.ofChange wholeSignsSpec)) wholeSignsCard

/-- THE TIED CARD OF 'steelyardlaw06.WholeTexts'. -/
def wholeTextsCard : Claim7 := { stood := { row := wholeTextsRow, standIns := [], harness := (true, "2b3c423332d0deba1a787e633641c1c2565a43613a63edac81f3ed68374c8900"), looks := false }, kinds := [], alts := [], laidByText := true, laidKinds := [.data], laidTests := true, laidLooks := .later }
def WholeTextsCardSaid : Prop := Claim7.holds Tryd.pinned (.plain (OpenSpec.ofChange wholeTextsSpec)) wholeTextsCard

/-- THE TIED CARD OF 'steelyardlaw09.LiteralTells'. -/
def literalTellsCard : Claim7 := { stood := { row := literalTellsRow, standIns := [], harness := (true, "2b3c423332d0deba1a787e633641c1c2565a43613a63edac81f3ed68374c8900"), looks := false }, kinds := [], alts := [], laidByText := true, laidKinds := [.data, .data], laidTests := true, laidLooks := .later }
def LiteralTellsCardSaid : Prop := Claim7.holds Tryd.pinned (.plain (OpenSpec.ofChange literalTellsSpec)) literalTellsCard

/-- THE TIED CARD OF 'steelyardlaw09.LiteralLongest'. -/
def literalLongestCard : Claim7 := { stood := { row := literalLongestRow, standIns := [], harness := (true, "2b3c423332d0deba1a787e633641c1c2565a43613a63edac81f3ed68374c8900"), looks := false }, kinds := [], alts := [], laidByText := true, laidKinds := [.data, .data], laidTests := true, laidLooks := .later }
def LiteralLongestCardSaid : Prop := Claim7.holds Tryd.pinned (.plain (OpenSpec.ofChange literalLongestSpec)) literalLongestCard

/-- THE TIED CARD OF 'steelyardlaw09.LiteralParts'. -/
def literalPartsCard : Claim7 := { stood := { row := literalPartsRow, standIns := [], harness := (true, "2b3c423332d0deba1a787e633641c1c2565a43613a63edac81f3ed68374c8900"), looks := false }, kinds := [], alts := [], laidByText := true, laidKinds := [.data, .data], laidTests := true, laidLooks := .later }
def LiteralPartsCardSaid : Prop := Claim7.holds Tryd.pinned (.plain (OpenSpec.ofChange literalPartsSpec)) literalPartsCard

/-- THE TIED CARD OF 'steelyardlaw09.LiteralNoughts'. -/
def literalNoughtsCard : Claim7 := { stood := { row := literalNoughtsRow, standIns := [], harness := (true, "2b3c423332d0deba1a787e633641c1c2565a43613a63edac81f3ed68374c8900"), looks := false }, kinds := [], alts := [], laidByText := true, laidKinds := [.data, .data], laidTests := true, laidLooks := .later }
def LiteralNoughtsCardSaid : Prop := Claim7.holds Tryd.pinned (.plain (OpenSpec.ofChange literalNoughtsSpec)) literalNoughtsCard

/-- THE SECOND FORM's CARD OF 'steelyardlaw06.WholeTells'. -/
def wholeTellsUptoCard : Claim7 := { stood := { row := wholeTellsUptoRow, standIns := [], harness := (true, "2b3c423332d0deba1a787e633641c1c2565a43613a63edac81f3ed68374c8900"), looks := false }, kinds := [], alts := [], laidByText := true, laidKinds := [.data], laidTests := true, laidLooks := .later }
def WholeTellsUptoCardSaid : Prop := Claim7.holds Tryd.pinned (.plain (OpenSpec.upto wholeTellsSpec)) wholeTellsUptoCard

/-- THE SECOND FORM's CARD OF 'steelyardlaw06.WholeLaws'. -/
def wholeLawsUptoCard : Claim7 := { stood := { row := wholeLawsUptoRow, standIns := [], harness := (true, "2b3c423332d0deba1a787e633641c1c2565a43613a63edac81f3ed68374c8900"), looks := false }, kinds := [], alts := [], laidByText := true, laidKinds := [.data], laidTests := true, laidLooks := .later }
def WholeLawsUptoCardSaid : Prop := Claim7.holds Tryd.pinned (.plain (OpenSpec.upto wholeLawsSpec)) wholeLawsUptoCard

/-- THE SECOND FORM's CARD OF 'steelyardlaw06.WholeOrder'. -/
def wholeOrderUptoCard : Claim7 := { stood := { row := wholeOrderUptoRow, standIns := [], harness := (true, "2b3c423332d0deba1a787e633641c1c2565a43613a63edac81f3ed68374c8900"), looks := false }, kinds := [], alts := [], laidByText := true, laidKinds := [.data], laidTests := true, laidLooks := .later }
def WholeOrderUptoCardSaid : Prop := Claim7.holds Tryd.pinned (.plain (OpenSpec.upto wholeOrderSpec)) wholeOrderUptoCard

/-- THE SECOND FORM's CARD OF 'steelyardlaw06.WholeSigns'. -/
def wholeSignsUptoCard : Claim7 := { stood := { row := wholeSignsUptoRow, standIns := [], harness := (true, "2b3c423332d0deba1a787e633641c1c2565a43613a63edac81f3ed68374c8900"), looks := false }, kinds := [], alts := [], laidByText := true, laidKinds := [.data], laidTests := true, laidLooks := .later }
def WholeSignsUptoCardSaid : Prop := Claim7.holds Tryd.pinned (.plain (OpenSpec.upto wholeSignsSpec)) wholeSignsUptoCard

/-- THE SECOND FORM's CARD OF 'steelyardlaw06.WholeTexts'. -/
def wholeTextsUptoCard : Claim7 := { stood := { row := wholeTextsUptoRow, standIns := [], harness := (true, "2b3c423332d0deba1a787e633641c1c2565a43613a63edac81f3ed68374c8900"), looks := false }, kinds := [], alts := [], laidByText := true, laidKinds := [.data], laidTests := true, laidLooks := .later }
def WholeTextsUptoCardSaid : Prop := Claim7.holds Tryd.pinned (.plain (OpenSpec.upto wholeTextsSpec)) wholeTextsUptoCard

/-- THE SECOND FORM's CARD OF 'steelyardlaw09.LiteralTells'. -/
def literalTellsUptoCard : Claim7 := { stood := { row := literalTellsUptoRow, standIns := [], harness := (true, "2b3c423332d0deba1a787e633641c1c2565a43613a63edac81f3ed68374c8900"), looks := false }, kinds := [], alts := [], laidByText := true, laidKinds := [.data, .data], laidTests := true, laidLooks := .later }
def LiteralTellsUptoCardSaid : Prop := Claim7.holds Tryd.pinned (.plain (OpenSpec.upto literalTellsSpec)) literalTellsUptoCard

/-- THE SECOND FORM's CARD OF 'steelyardlaw09.LiteralLongest'. -/
def literalLongestUptoCard : Claim7 := { stood := { row := literalLongestUptoRow, standIns := [], harness := (true, "2b3c423332d0deba1a787e633641c1c2565a43613a63edac81f3ed68374c8900"), looks := false }, kinds := [], alts := [], laidByText := true, laidKinds := [.data, .data], laidTests := true, laidLooks := .later }
def LiteralLongestUptoCardSaid : Prop := Claim7.holds Tryd.pinned (.plain (OpenSpec.upto literalLongestSpec)) literalLongestUptoCard

/-- THE SECOND FORM's CARD OF 'steelyardlaw09.LiteralParts'. -/
def literalPartsUptoCard : Claim7 := { stood := { row := literalPartsUptoRow, standIns := [], harness := (true, "2b3c423332d0deba1a787e633641c1c2565a43613a63edac81f3ed68374c8900"), looks := false }, kinds := [], alts := [], laidByText := true, laidKinds := [.data, .data], laidTests := true, laidLooks := .later }
def LiteralPartsUptoCardSaid : Prop := Claim7.holds Tryd.pinned (.plain (OpenSpec.upto literalPartsSpec)) literalPartsUptoCard

/-- THE SECOND FORM's CARD OF 'steelyardlaw09.LiteralNoughts'. -/
def literalNoughtsUptoCard : Claim7 := { stood := { row := literalNoughtsUptoRow, standIns := [], harness := (true, "2b3c423332d0deba1a787e633641c1c2565a43613a63edac81f3ed68374c8900"), looks := false }, kinds := [], alts := [], laidByText := true, laidKinds := [.data, .data], laidTests := true, laidLooks := .later }
def LiteralNoughtsUptoCardSaid : Prop := Claim7.holds Tryd.pinned (.plain (OpenSpec.upto literalNoughtsSpec)) literalNoughtsUptoCard
end Rows
end Go.Proofs.YtnilfndadahgaaaDoor

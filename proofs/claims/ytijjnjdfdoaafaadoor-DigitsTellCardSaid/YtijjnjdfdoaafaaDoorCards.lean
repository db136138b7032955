/-
  DERIVED. GIVEN WITH THE SEED: THE CARDS: each row of YtijjnjdfdoaafaaDoorRows.lean that lists a variable, with what it lists TIED to the program's text (the seventh form; the later family's looks); each row that meets fmt, with fmt's text TOLD by the authors' own Lean function (tested against real Go, not proved from fmt's source: count such statements apart). THE CARD IS WHAT COUNTS. Prove the row's statement (the work); the ties are given (YtijjnjdfdoaafaaDoorTie.lean); close each card by the builder's one call (the guide's Derived/Test/ToyasCard.lean, 'card_holds'). Laid BY PROGRAM, IN A SANDBOX (cutbox-door.mjs). By AI agents, Wed Nov 11 2026. No macro, syntax, notation, axiom, sorry.
-/
import Derived.Test.YtijjnjdfdoaafaaDoorRows
import GoSem.ClaimSeven
namespace Go.Proofs.YtijjnjdfdoaafaaDoor
namespace Rows

/-- THE TIED CARD OF 'steelyardlaw05.DigitsTell'. -/
def digitsTellCard : Claim7 := { stood := { row := digitsTellRow, standIns := [], harness := (true, "8d6ea3850fa2719269afdec39786151b19af788772992a67b26ce4504ee0575b"), looks := false }, kinds := [], alts := [], laidByText := true, laidKinds := [.data], laidTests := true, laidLooks := .later }
def DigitsTellCardSaid : Prop := Claim7.holds Tryd.pinned (.plain (OpenSpec.ofChange digitsTellSpec)) digitsTellCard

/-- THE TIED CARD OF 'steelyardlaw05.DigitsBack'. -/
def digitsBackCard : Claim7 := { stood := { row := digitsBackRow, standIns := [], harness := (true, "8d6ea3850fa2719269afdec39786151b19af788772992a67b26ce4504ee0575b"), looks := false }, kinds := [], alts := [], laidByText := true, laidKinds := [.data], laidTests := true, laidLooks := .later }
def DigitsBackCardSaid : Prop := Claim7.holds Tryd.pinned (.plain (OpenSpec.ofChange digitsBackSpec)) digitsBackCard

/-- THE TIED CARD OF 'steelyardlaw05.DigitsParts'. -/
def digitsPartsCard : Claim7 := { stood := { row := digitsPartsRow, standIns := [], harness := (true, "8d6ea3850fa2719269afdec39786151b19af788772992a67b26ce4504ee0575b"), looks := false }, kinds := [], alts := [], laidByText := true, laidKinds := [.data], laidTests := true, laidLooks := .later }
def DigitsPartsCardSaid : Prop := Claim7.holds Tryd.pinned (.plain (OpenSpec.ofChange digitsPartsSpec)) digitsPartsCard

/-- THE TIED CARD OF 'steelyardlaw05.DigitsOrder'. -/
def digitsOrderCard : Claim7 := { stood := { row := digitsOrderRow, standIns := [], harness := (true, "8d6ea3850fa2719269afdec39786151b19af788772992a67b26ce4504ee0575b"), looks := false }, kinds := [], alts := [], laidByText := true, laidKinds := [.data], laidTests := true, laidLooks := .later }
def DigitsOrderCardSaid : Prop := Claim7.holds Tryd.pinned (.plain (OpenSpec.ofChange digitsOrderSpec)) digitsOrderCard

/-- THE SECOND FORM's CARD OF 'steelyardlaw05.DigitsTell'. -/
def digitsTellUptoCard : Claim7 := { stood := { row := digitsTellUptoRow, standIns := [], harness := (true, "8d6ea3850fa2719269afdec39786151b19af788772992a67b26ce4504ee0575b"), looks := false }, kinds := [], alts := [], laidByText := true, laidKinds := [.data], laidTests := true, laidLooks := .later }
def DigitsTellUptoCardSaid : Prop := Claim7.holds Tryd.pinned (.plain (OpenSpec.upto digitsTellSpec)) digitsTellUptoCard

/-- THE SECOND FORM's CARD OF 'steelyardlaw05.DigitsBack'. -/
def digitsBackUptoCard : Claim7 := { stood := { row := digitsBackUptoRow, standIns := [], harness := (true, "8d6ea3850fa2719269afdec39786151b19af788772992a67b26ce4504ee0575b"), looks := false }, kinds := [], alts := [], laidByText := true, laidKinds := [.data], laidTests := true, laidLooks := .later }
def DigitsBackUptoCardSaid : Prop := Claim7.holds Tryd.pinned (.plain (OpenSpec.upto digitsBackSpec)) digitsBackUptoCard

/-- THE SECOND FORM's CARD OF 'steelyardlaw05.DigitsParts'. -/
def digitsPartsUptoCard : Claim7 := { stood := { row := digitsPartsUptoRow, standIns := [], harness := (true, "8d6ea3850fa2719269afdec39786151b19af788772992a67b26ce4504ee0575b"), looks := false }, kinds := [], alts := [], laidByText := true, laidKinds := [.data], laidTests := true, laidLooks := .later }
def DigitsPartsUptoCardSaid : Prop := Claim7.holds Tryd.pinned (.plain (OpenSpec.upto digitsPartsSpec)) digitsPartsUptoCard

/-- THE SECOND FORM's CARD OF 'steelyardlaw05.DigitsOrder'. -/
def digitsOrderUptoCard : Claim7 := { stood := { row := digitsOrderUptoRow, standIns := [], harness := (true, "8d6ea3850fa2719269afdec39786151b19af788772992a67b26ce4504ee0575b"), looks := false }, kinds := [], alts := [], laidByText := true, laidKinds := [.data], laidTests := true, laidLooks := .later }
def DigitsOrderUptoCardSaid : Prop := Claim7.holds Tryd.pinned (.plain (OpenSpec.upto digitsOrderSpec)) digitsOrderUptoCard
end Rows
end Go.Proofs.YtijjnjdfdoaafaaDoor

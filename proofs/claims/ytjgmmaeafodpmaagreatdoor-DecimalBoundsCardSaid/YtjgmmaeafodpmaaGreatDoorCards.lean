/-
  DERIVED. GIVEN WITH THE SEED: THE CARDS: each row of YtjgmmaeafodpmaaGreatDoorRows.lean that lists a variable, with what it lists TIED to the program's text (the seventh form; the later family's looks); each row that meets fmt, with fmt's text TOLD by the authors' own Lean function (tested against real Go, not proved from fmt's source: count such statements apart). THE CARD IS WHAT COUNTS. Prove the row's statement (the work); the ties are given (YtjgmmaeafodpmaaGreatDoorTie.lean); close each card by the builder's one call (the guide's Derived/Test/ToyasCard.lean, 'card_holds'). Laid BY PROGRAM, IN A SANDBOX (cutbox-door.mjs). By AI agents, Wed Nov 11 2026. No macro, syntax, notation, axiom, sorry.
-/
import Derived.Test.YtjgmmaeafodpmaaGreatDoorRows
import GoSem.ClaimSeven
namespace Go.Proofs.YtjgmmaeafodpmaaGreatDoor
namespace Rows

/-- THE TIED CARD OF 'steelyardlaw25.EncloseTells'. -/
def encloseTellsCard : Claim7 := { stood := { row := encloseTellsRow, standIns := [], harness := (true, "fe3463d5d7a8123e3a1eec861df2bce58e180d0bd23e5d384663b080a3a2b75c"), looks := false }, kinds := [], alts := [], laidByText := true, laidKinds := [.data], laidTests := true, laidLooks := .later }
def EncloseTellsCardSaid : Prop := Claim7.holds Tryz.pinned (.plain (OpenSpec.ofChange encloseTellsSpec)) encloseTellsCard

/-- THE TIED CARD OF 'steelyardlaw25.EncloseMore'. -/
def encloseMoreCard : Claim7 := { stood := { row := encloseMoreRow, standIns := [], harness := (true, "fe3463d5d7a8123e3a1eec861df2bce58e180d0bd23e5d384663b080a3a2b75c"), looks := false }, kinds := [], alts := [], laidByText := true, laidKinds := [.data], laidTests := true, laidLooks := .later }
def EncloseMoreCardSaid : Prop := Claim7.holds Tryz.pinned (.plain (OpenSpec.ofChange encloseMoreSpec)) encloseMoreCard

/-- THE TIED CARD OF 'steelyardlaw10.DecimalTells'. -/
def decimalTellsCard : Claim7 := { stood := { row := decimalTellsRow, standIns := [], harness := (true, "fe3463d5d7a8123e3a1eec861df2bce58e180d0bd23e5d384663b080a3a2b75c"), looks := false }, kinds := [], alts := [], laidByText := true, laidKinds := [.data], laidTests := true, laidLooks := .later }
def DecimalTellsCardSaid : Prop := Claim7.holds Tryz.pinned (.plain (OpenSpec.ofChange decimalTellsSpec)) decimalTellsCard

/-- THE TIED CARD OF 'steelyardlaw10.DecimalBack'. -/
def decimalBackCard : Claim7 := { stood := { row := decimalBackRow, standIns := [], harness := (true, "fe3463d5d7a8123e3a1eec861df2bce58e180d0bd23e5d384663b080a3a2b75c"), looks := false }, kinds := [], alts := [], laidByText := true, laidKinds := [.data], laidTests := true, laidLooks := .later }
def DecimalBackCardSaid : Prop := Claim7.holds Tryz.pinned (.plain (OpenSpec.ofChange decimalBackSpec)) decimalBackCard

/-- THE TIED CARD OF 'steelyardlaw10.DecimalNegs'. -/
def decimalNegsCard : Claim7 := { stood := { row := decimalNegsRow, standIns := [], harness := (true, "fe3463d5d7a8123e3a1eec861df2bce58e180d0bd23e5d384663b080a3a2b75c"), looks := false }, kinds := [], alts := [], laidByText := true, laidKinds := [.data], laidTests := true, laidLooks := .later }
def DecimalNegsCardSaid : Prop := Claim7.holds Tryz.pinned (.plain (OpenSpec.ofChange decimalNegsSpec)) decimalNegsCard

/-- THE TIED CARD OF 'steelyardlaw10.DecimalWhole'. -/
def decimalWholeCard : Claim7 := { stood := { row := decimalWholeRow, standIns := [], harness := (true, "fe3463d5d7a8123e3a1eec861df2bce58e180d0bd23e5d384663b080a3a2b75c"), looks := false }, kinds := [], alts := [], laidByText := true, laidKinds := [.data], laidTests := true, laidLooks := .later }
def DecimalWholeCardSaid : Prop := Claim7.holds Tryz.pinned (.plain (OpenSpec.ofChange decimalWholeSpec)) decimalWholeCard

/-- THE TIED CARD OF 'steelyardlaw10.DecimalOrder'. -/
def decimalOrderCard : Claim7 := { stood := { row := decimalOrderRow, standIns := [], harness := (true, "fe3463d5d7a8123e3a1eec861df2bce58e180d0bd23e5d384663b080a3a2b75c"), looks := false }, kinds := [], alts := [], laidByText := true, laidKinds := [.data], laidTests := true, laidLooks := .later }
def DecimalOrderCardSaid : Prop := Claim7.holds Tryz.pinned (.plain (OpenSpec.ofChange decimalOrderSpec)) decimalOrderCard

/-- THE TIED CARD OF 'steelyardlaw10.DecimalBounds'. -/
def decimalBoundsCard : Claim7 := { stood := { row := decimalBoundsRow, standIns := [], harness := (true, "fe3463d5d7a8123e3a1eec861df2bce58e180d0bd23e5d384663b080a3a2b75c"), looks := false }, kinds := [], alts := [], laidByText := true, laidKinds := [.data], laidTests := true, laidLooks := .later }
def DecimalBoundsCardSaid : Prop := Claim7.holds Tryz.pinned (.plain (OpenSpec.ofChange decimalBoundsSpec)) decimalBoundsCard

/-- THE SECOND FORM's CARD OF 'steelyardlaw25.EncloseTells'. -/
def encloseTellsUptoCard : Claim7 := { stood := { row := encloseTellsUptoRow, standIns := [], harness := (true, "fe3463d5d7a8123e3a1eec861df2bce58e180d0bd23e5d384663b080a3a2b75c"), looks := false }, kinds := [], alts := [], laidByText := true, laidKinds := [.data], laidTests := true, laidLooks := .later }
def EncloseTellsUptoCardSaid : Prop := Claim7.holds Tryz.pinned (.plain (OpenSpec.upto encloseTellsSpec)) encloseTellsUptoCard

/-- THE SECOND FORM's CARD OF 'steelyardlaw25.EncloseMore'. -/
def encloseMoreUptoCard : Claim7 := { stood := { row := encloseMoreUptoRow, standIns := [], harness := (true, "fe3463d5d7a8123e3a1eec861df2bce58e180d0bd23e5d384663b080a3a2b75c"), looks := false }, kinds := [], alts := [], laidByText := true, laidKinds := [.data], laidTests := true, laidLooks := .later }
def EncloseMoreUptoCardSaid : Prop := Claim7.holds Tryz.pinned (.plain (OpenSpec.upto encloseMoreSpec)) encloseMoreUptoCard

/-- THE SECOND FORM's CARD OF 'steelyardlaw10.DecimalTells'. -/
def decimalTellsUptoCard : Claim7 := { stood := { row := decimalTellsUptoRow, standIns := [], harness := (true, "fe3463d5d7a8123e3a1eec861df2bce58e180d0bd23e5d384663b080a3a2b75c"), looks := false }, kinds := [], alts := [], laidByText := true, laidKinds := [.data], laidTests := true, laidLooks := .later }
def DecimalTellsUptoCardSaid : Prop := Claim7.holds Tryz.pinned (.plain (OpenSpec.upto decimalTellsSpec)) decimalTellsUptoCard

/-- THE SECOND FORM's CARD OF 'steelyardlaw10.DecimalBack'. -/
def decimalBackUptoCard : Claim7 := { stood := { row := decimalBackUptoRow, standIns := [], harness := (true, "fe3463d5d7a8123e3a1eec861df2bce58e180d0bd23e5d384663b080a3a2b75c"), looks := false }, kinds := [], alts := [], laidByText := true, laidKinds := [.data], laidTests := true, laidLooks := .later }
def DecimalBackUptoCardSaid : Prop := Claim7.holds Tryz.pinned (.plain (OpenSpec.upto decimalBackSpec)) decimalBackUptoCard

/-- THE SECOND FORM's CARD OF 'steelyardlaw10.DecimalNegs'. -/
def decimalNegsUptoCard : Claim7 := { stood := { row := decimalNegsUptoRow, standIns := [], harness := (true, "fe3463d5d7a8123e3a1eec861df2bce58e180d0bd23e5d384663b080a3a2b75c"), looks := false }, kinds := [], alts := [], laidByText := true, laidKinds := [.data], laidTests := true, laidLooks := .later }
def DecimalNegsUptoCardSaid : Prop := Claim7.holds Tryz.pinned (.plain (OpenSpec.upto decimalNegsSpec)) decimalNegsUptoCard

/-- THE SECOND FORM's CARD OF 'steelyardlaw10.DecimalWhole'. -/
def decimalWholeUptoCard : Claim7 := { stood := { row := decimalWholeUptoRow, standIns := [], harness := (true, "fe3463d5d7a8123e3a1eec861df2bce58e180d0bd23e5d384663b080a3a2b75c"), looks := false }, kinds := [], alts := [], laidByText := true, laidKinds := [.data], laidTests := true, laidLooks := .later }
def DecimalWholeUptoCardSaid : Prop := Claim7.holds Tryz.pinned (.plain (OpenSpec.upto decimalWholeSpec)) decimalWholeUptoCard

/-- THE SECOND FORM's CARD OF 'steelyardlaw10.DecimalOrder'. -/
def decimalOrderUptoCard : Claim7 := { stood := { row := decimalOrderUptoRow, standIns := [], harness := (true, "fe3463d5d7a8123e3a1eec861df2bce58e180d0bd23e5d384663b080a3a2b75c"), looks := false }, kinds := [], alts := [], laidByText := true, laidKinds := [.data], laidTests := true, laidLooks := .later }
def DecimalOrderUptoCardSaid : Prop := Claim7.holds Tryz.pinned (.plain (OpenSpec.upto decimalOrderSpec)) decimalOrderUptoCard

/-- THE SECOND FORM's CARD OF 'steelyardlaw10.DecimalBounds'. -/
def decimalBoundsUptoCard : Claim7 := { stood := { row := decimalBoundsUptoRow, standIns := [], harness := (true, "fe3463d5d7a8123e3a1eec861df2bce58e180d0bd23e5d384663b080a3a2b75c"), looks := false }, kinds := [], alts := [], laidByText := true, laidKinds := [.data], laidTests := true, laidLooks := .later }
def DecimalBoundsUptoCardSaid : Prop := Claim7.holds Tryz.pinned (.plain (OpenSpec.upto decimalBoundsSpec)) decimalBoundsUptoCard
end Rows
end Go.Proofs.YtjgmmaeafodpmaaGreatDoor

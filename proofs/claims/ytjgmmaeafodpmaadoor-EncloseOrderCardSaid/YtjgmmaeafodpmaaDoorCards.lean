/-
  DERIVED. GIVEN WITH THE SEED: THE CARDS: each row of YtjgmmaeafodpmaaDoorRows.lean that lists a variable, with what it lists TIED to the program's text (the seventh form; the later family's looks); each row that meets fmt, with fmt's text TOLD by the authors' own Lean function (tested against real Go, not proved from fmt's source: count such statements apart). THE CARD IS WHAT COUNTS. Prove the row's statement (the work); the ties are given (YtjgmmaeafodpmaaDoorTie.lean); close each card by the builder's one call (the guide's Derived/Test/ToyasCard.lean, 'card_holds'). Laid BY PROGRAM, IN A SANDBOX (cutbox-door.mjs). By AI agents, Wed Nov 11 2026. No macro, syntax, notation, axiom, sorry.
-/
import Derived.Test.YtjgmmaeafodpmaaDoorRows
import GoSem.ClaimSeven
namespace Go.Proofs.YtjgmmaeafodpmaaDoor
namespace Rows

/-- THE TIED CARD OF 'steelyardlaw25.EncloseHolds'. -/
def encloseHoldsCard : Claim7 := { stood := { row := encloseHoldsRow, standIns := [], harness := (true, "91a0435ae10869924ef8789b82c409d8c17f4718f924372e62c66a04eedf572c"), looks := false }, kinds := [], alts := [], laidByText := true, laidKinds := [.data], laidTests := true, laidLooks := .later }
def EncloseHoldsCardSaid : Prop := Claim7.holds Tryd.pinned (.plain (OpenSpec.ofChange encloseHoldsSpec)) encloseHoldsCard

/-- THE TIED CARD OF 'steelyardlaw25.EncloseTens'. -/
def encloseTensCard : Claim7 := { stood := { row := encloseTensRow, standIns := [], harness := (true, "91a0435ae10869924ef8789b82c409d8c17f4718f924372e62c66a04eedf572c"), looks := false }, kinds := [], alts := [], laidByText := true, laidKinds := [.data], laidTests := true, laidLooks := .later }
def EncloseTensCardSaid : Prop := Claim7.holds Tryd.pinned (.plain (OpenSpec.ofChange encloseTensSpec)) encloseTensCard

/-- THE TIED CARD OF 'steelyardlaw25.EncloseOrder'. -/
def encloseOrderCard : Claim7 := { stood := { row := encloseOrderRow, standIns := [], harness := (true, "91a0435ae10869924ef8789b82c409d8c17f4718f924372e62c66a04eedf572c"), looks := false }, kinds := [], alts := [], laidByText := true, laidKinds := [.data], laidTests := true, laidLooks := .later }
def EncloseOrderCardSaid : Prop := Claim7.holds Tryd.pinned (.plain (OpenSpec.ofChange encloseOrderSpec)) encloseOrderCard

/-- THE SECOND FORM's CARD OF 'steelyardlaw25.EncloseHolds'. -/
def encloseHoldsUptoCard : Claim7 := { stood := { row := encloseHoldsUptoRow, standIns := [], harness := (true, "91a0435ae10869924ef8789b82c409d8c17f4718f924372e62c66a04eedf572c"), looks := false }, kinds := [], alts := [], laidByText := true, laidKinds := [.data], laidTests := true, laidLooks := .later }
def EncloseHoldsUptoCardSaid : Prop := Claim7.holds Tryd.pinned (.plain (OpenSpec.upto encloseHoldsSpec)) encloseHoldsUptoCard

/-- THE SECOND FORM's CARD OF 'steelyardlaw25.EncloseTens'. -/
def encloseTensUptoCard : Claim7 := { stood := { row := encloseTensUptoRow, standIns := [], harness := (true, "91a0435ae10869924ef8789b82c409d8c17f4718f924372e62c66a04eedf572c"), looks := false }, kinds := [], alts := [], laidByText := true, laidKinds := [.data], laidTests := true, laidLooks := .later }
def EncloseTensUptoCardSaid : Prop := Claim7.holds Tryd.pinned (.plain (OpenSpec.upto encloseTensSpec)) encloseTensUptoCard

/-- THE SECOND FORM's CARD OF 'steelyardlaw25.EncloseOrder'. -/
def encloseOrderUptoCard : Claim7 := { stood := { row := encloseOrderUptoRow, standIns := [], harness := (true, "91a0435ae10869924ef8789b82c409d8c17f4718f924372e62c66a04eedf572c"), looks := false }, kinds := [], alts := [], laidByText := true, laidKinds := [.data], laidTests := true, laidLooks := .later }
def EncloseOrderUptoCardSaid : Prop := Claim7.holds Tryd.pinned (.plain (OpenSpec.upto encloseOrderSpec)) encloseOrderUptoCard
end Rows
end Go.Proofs.YtjgmmaeafodpmaaDoor

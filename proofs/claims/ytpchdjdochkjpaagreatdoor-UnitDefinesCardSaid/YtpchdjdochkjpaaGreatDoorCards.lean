/-
  DERIVED. GIVEN WITH THE SEED: THE CARDS: each row of YtpchdjdochkjpaaGreatDoorRows.lean that lists a variable, with what it lists TIED to the program's text (the seventh form; the later family's looks); each row that meets fmt, with fmt's text TOLD by the authors' own Lean function (tested against real Go, not proved from fmt's source: count such statements apart). THE CARD IS WHAT COUNTS. Prove the row's statement (the work); the ties are given (YtpchdjdochkjpaaGreatDoorTie.lean); close each card by the builder's one call (the guide's Derived/Test/ToyasCard.lean, 'card_holds'). Laid BY PROGRAM, IN A SANDBOX (cutbox-door.mjs). By AI agents, Wed Nov 11 2026. No macro, syntax, notation, axiom, sorry.
-/
import Derived.Test.YtpchdjdochkjpaaGreatDoorRows
import GoSem.ClaimSeven
namespace Go.Proofs.YtpchdjdochkjpaaGreatDoor
namespace Rows

/-- THE TIED CARD OF 'steelyardlaw12.UnitPlays'. -/
def unitPlaysCard : Claim7 := { stood := { row := unitPlaysRow, standIns := [], harness := (true, "d48ede389e88dea74f13f5841067fcb5a26cf4359f4f8240530e31c2159111da"), looks := false }, kinds := [], alts := [], laidByText := true, laidKinds := [.data, .data], laidTests := true, laidLooks := .later }
def UnitPlaysCardSaid : Prop := Claim7.holds Tryz.pinned (.plain (OpenSpec.ofChange unitPlaysSpec)) unitPlaysCard

/-- THE TIED CARD OF 'steelyardlaw12.UnitProducts'. -/
def unitProductsCard : Claim7 := { stood := { row := unitProductsRow, standIns := [], harness := (true, "d48ede389e88dea74f13f5841067fcb5a26cf4359f4f8240530e31c2159111da"), looks := false }, kinds := [], alts := [], laidByText := true, laidKinds := [.data, .data], laidTests := true, laidLooks := .later }
def UnitProductsCardSaid : Prop := Claim7.holds Tryz.pinned (.plain (OpenSpec.ofChange unitProductsSpec)) unitProductsCard

/-- THE TIED CARD OF 'steelyardlaw12.UnitNames'. -/
def unitNamesCard : Claim7 := { stood := { row := unitNamesRow, standIns := [], harness := (true, "d48ede389e88dea74f13f5841067fcb5a26cf4359f4f8240530e31c2159111da"), looks := false }, kinds := [], alts := [], laidByText := true, laidKinds := [.data, .data], laidTests := true, laidLooks := .later }
def UnitNamesCardSaid : Prop := Claim7.holds Tryz.pinned (.plain (OpenSpec.ofChange unitNamesSpec)) unitNamesCard

/-- THE TIED CARD OF 'steelyardlaw12.UnitSelf'. -/
def unitSelfCard : Claim7 := { stood := { row := unitSelfRow, standIns := [], harness := (true, "d48ede389e88dea74f13f5841067fcb5a26cf4359f4f8240530e31c2159111da"), looks := false }, kinds := [], alts := [], laidByText := true, laidKinds := [.data, .data], laidTests := true, laidLooks := .later }
def UnitSelfCardSaid : Prop := Claim7.holds Tryz.pinned (.plain (OpenSpec.ofChange unitSelfSpec)) unitSelfCard

/-- THE TIED CARD OF 'steelyardlaw12.UnitDefines'. -/
def unitDefinesCard : Claim7 := { stood := { row := unitDefinesRow, standIns := [], harness := (true, "d48ede389e88dea74f13f5841067fcb5a26cf4359f4f8240530e31c2159111da"), looks := false }, kinds := [], alts := [], laidByText := true, laidKinds := [.data, .data], laidTests := true, laidLooks := .later }
def UnitDefinesCardSaid : Prop := Claim7.holds Tryz.pinned (.plain (OpenSpec.ofChange unitDefinesSpec)) unitDefinesCard

/-- THE SECOND FORM's CARD OF 'steelyardlaw12.UnitPlays'. -/
def unitPlaysUptoCard : Claim7 := { stood := { row := unitPlaysUptoRow, standIns := [], harness := (true, "d48ede389e88dea74f13f5841067fcb5a26cf4359f4f8240530e31c2159111da"), looks := false }, kinds := [], alts := [], laidByText := true, laidKinds := [.data, .data], laidTests := true, laidLooks := .later }
def UnitPlaysUptoCardSaid : Prop := Claim7.holds Tryz.pinned (.plain (OpenSpec.upto unitPlaysSpec)) unitPlaysUptoCard

/-- THE SECOND FORM's CARD OF 'steelyardlaw12.UnitProducts'. -/
def unitProductsUptoCard : Claim7 := { stood := { row := unitProductsUptoRow, standIns := [], harness := (true, "d48ede389e88dea74f13f5841067fcb5a26cf4359f4f8240530e31c2159111da"), looks := false }, kinds := [], alts := [], laidByText := true, laidKinds := [.data, .data], laidTests := true, laidLooks := .later }
def UnitProductsUptoCardSaid : Prop := Claim7.holds Tryz.pinned (.plain (OpenSpec.upto unitProductsSpec)) unitProductsUptoCard

/-- THE SECOND FORM's CARD OF 'steelyardlaw12.UnitNames'. -/
def unitNamesUptoCard : Claim7 := { stood := { row := unitNamesUptoRow, standIns := [], harness := (true, "d48ede389e88dea74f13f5841067fcb5a26cf4359f4f8240530e31c2159111da"), looks := false }, kinds := [], alts := [], laidByText := true, laidKinds := [.data, .data], laidTests := true, laidLooks := .later }
def UnitNamesUptoCardSaid : Prop := Claim7.holds Tryz.pinned (.plain (OpenSpec.upto unitNamesSpec)) unitNamesUptoCard

/-- THE SECOND FORM's CARD OF 'steelyardlaw12.UnitSelf'. -/
def unitSelfUptoCard : Claim7 := { stood := { row := unitSelfUptoRow, standIns := [], harness := (true, "d48ede389e88dea74f13f5841067fcb5a26cf4359f4f8240530e31c2159111da"), looks := false }, kinds := [], alts := [], laidByText := true, laidKinds := [.data, .data], laidTests := true, laidLooks := .later }
def UnitSelfUptoCardSaid : Prop := Claim7.holds Tryz.pinned (.plain (OpenSpec.upto unitSelfSpec)) unitSelfUptoCard

/-- THE SECOND FORM's CARD OF 'steelyardlaw12.UnitDefines'. -/
def unitDefinesUptoCard : Claim7 := { stood := { row := unitDefinesUptoRow, standIns := [], harness := (true, "d48ede389e88dea74f13f5841067fcb5a26cf4359f4f8240530e31c2159111da"), looks := false }, kinds := [], alts := [], laidByText := true, laidKinds := [.data, .data], laidTests := true, laidLooks := .later }
def UnitDefinesUptoCardSaid : Prop := Claim7.holds Tryz.pinned (.plain (OpenSpec.upto unitDefinesSpec)) unitDefinesUptoCard
end Rows
end Go.Proofs.YtpchdjdochkjpaaGreatDoor

/-
  NARROWER THAN 'FOR EVERY INPUT', by the rows' own cells (each row's printed sentence says how): WholeTells: laid · WholeLaws: laid · WholeOrder: laid · WholeSigns: laid · WholeTexts: laid · LiteralTells: laid · LiteralLongest: laid · LiteralParts: laid · LiteralNoughts: laid.
  DERIVED. THE GIVEN ROWS OF THIS SEAT. 9 by the template 'for every input the law returns true; each argument reads behind the call as it read before'; 0 by the template 'total and deterministic' (their statements: YtnilfndadahgaaaDoorTotals.lean).
  GIVEN WITH THE SEED: the statements are not yours to turn. If you find one false, say at which input.
  Laid BY PROGRAM, IN A SANDBOX (cutbox-rows.mjs): the forced cells as the released guide's own fill.sh prints them over the translation 8bd6855f94a6df90… (all of the seat's roots in one cut). By AI agents, Wed Nov 11 2026. No macro, syntax, notation, axiom, sorry.
-/
import Derived.Test.YtnilfndadahgaaaDoorChecked
import GoSem.Claim
import GoSem.ClaimJoined
import GoSem.ClaimMapViews
import Derived.JoinedTies
import Derived.KernelRfl
namespace Go.Proofs.YtnilfndadahgaaaDoor
/- THE CELL 'sum', in the pinned program and in every row, IS THE sha256 OF THE DUMP (.gsa) THAT YtnilfndadahgaaaDoorProg.lean LOADS. Nothing in Lean hashes anything: it is a label: what it is worth is what the hold of that sum in a sandbox is worth. -/
noncomputable def Tryd.pinned : Pinned := { name := "ytnilfndadahgaaadoor", sum := "8bd6855f94a6df9042b06f5826dfbfb0b0a16e99b7e88aca4d79533f804fd052", checked := Tryd.checked }
namespace Rows
def none {H : Type} : Left H := { results := [], args := [] }

/- WHAT THE LISTED PACKAGE-LEVEL VARIABLES READ AS WHEN THE CALL BEGINS. Each datum BY PROGRAM (the guide's laid-datum.mjs) off the statement by which the dump's own 'gosem.cut.vars' lays the variable. In a bare row this is a premise. The card (YtnilfndadahgaaaDoorCards.lean) ties it to the program's text. -/
def laid_steelyard_digits_tens {H : Type} : DataW H := .agg [.lit (.int .u32 1), .lit (.int .u32 10), .lit (.int .u32 100), .lit (.int .u32 1000), .lit (.int .u32 10000), .lit (.int .u32 100000), .lit (.int .u32 1000000), .lit (.int .u32 10000000), .lit (.int .u32 100000000), .lit (.int .u32 1000000000)]
def laid_steelyard_literal_digit {H : Type} : DataW H := .agg [.lit (.bool false), .lit (.bool false), .lit (.bool false), .lit (.bool false), .lit (.bool false), .lit (.bool false), .lit (.bool false), .lit (.bool false), .lit (.bool false), .lit (.bool false), .lit (.bool false), .lit (.bool false), .lit (.bool false), .lit (.bool false), .lit (.bool false), .lit (.bool false), .lit (.bool false), .lit (.bool false), .lit (.bool false), .lit (.bool false), .lit (.bool false), .lit (.bool false), .lit (.bool false), .lit (.bool false), .lit (.bool false), .lit (.bool false), .lit (.bool false), .lit (.bool false), .lit (.bool false), .lit (.bool false), .lit (.bool false), .lit (.bool false), .lit (.bool false), .lit (.bool false), .lit (.bool false), .lit (.bool false), .lit (.bool false), .lit (.bool false), .lit (.bool false), .lit (.bool false), .lit (.bool false), .lit (.bool false), .lit (.bool false), .lit (.bool false), .lit (.bool false), .lit (.bool false), .lit (.bool false), .lit (.bool false), .lit (.bool true), .lit (.bool true), .lit (.bool true), .lit (.bool true), .lit (.bool true), .lit (.bool true), .lit (.bool true), .lit (.bool true), .lit (.bool true), .lit (.bool true), .lit (.bool false), .lit (.bool false), .lit (.bool false), .lit (.bool false), .lit (.bool false), .lit (.bool false), .lit (.bool false), .lit (.bool false), .lit (.bool false), .lit (.bool false), .lit (.bool false), .lit (.bool false), .lit (.bool false), .lit (.bool false), .lit (.bool false), .lit (.bool false), .lit (.bool false), .lit (.bool false), .lit (.bool false), .lit (.bool false), .lit (.bool false), .lit (.bool false), .lit (.bool false), .lit (.bool false), .lit (.bool false), .lit (.bool false), .lit (.bool false), .lit (.bool false), .lit (.bool false), .lit (.bool false), .lit (.bool false), .lit (.bool false), .lit (.bool false), .lit (.bool false), .lit (.bool false), .lit (.bool false), .lit (.bool false), .lit (.bool false), .lit (.bool false), .lit (.bool false), .lit (.bool false), .lit (.bool false), .lit (.bool false), .lit (.bool false), .lit (.bool false), .lit (.bool false), .lit (.bool false), .lit (.bool false), .lit (.bool false), .lit (.bool false), .lit (.bool false), .lit (.bool false), .lit (.bool false), .lit (.bool false), .lit (.bool false), .lit (.bool false), .lit (.bool false), .lit (.bool false), .lit (.bool false), .lit (.bool false), .lit (.bool false), .lit (.bool false), .lit (.bool false), .lit (.bool false), .lit (.bool false), .lit (.bool false), .lit (.bool false), .lit (.bool false), .lit (.bool false), .lit (.bool false), .lit (.bool false), .lit (.bool false), .lit (.bool false), .lit (.bool false), .lit (.bool false), .lit (.bool false), .lit (.bool false), .lit (.bool false), .lit (.bool false), .lit (.bool false), .lit (.bool false), .lit (.bool false), .lit (.bool false), .lit (.bool false), .lit (.bool false), .lit (.bool false), .lit (.bool false), .lit (.bool false), .lit (.bool false), .lit (.bool false), .lit (.bool false), .lit (.bool false), .lit (.bool false), .lit (.bool false), .lit (.bool false), .lit (.bool false), .lit (.bool false), .lit (.bool false), .lit (.bool false), .lit (.bool false), .lit (.bool false), .lit (.bool false), .lit (.bool false), .lit (.bool false), .lit (.bool false), .lit (.bool false), .lit (.bool false), .lit (.bool false), .lit (.bool false), .lit (.bool false), .lit (.bool false), .lit (.bool false), .lit (.bool false), .lit (.bool false), .lit (.bool false), .lit (.bool false), .lit (.bool false), .lit (.bool false), .lit (.bool false), .lit (.bool false), .lit (.bool false), .lit (.bool false), .lit (.bool false), .lit (.bool false), .lit (.bool false), .lit (.bool false), .lit (.bool false), .lit (.bool false), .lit (.bool false), .lit (.bool false), .lit (.bool false), .lit (.bool false), .lit (.bool false), .lit (.bool false), .lit (.bool false), .lit (.bool false), .lit (.bool false), .lit (.bool false), .lit (.bool false), .lit (.bool false), .lit (.bool false), .lit (.bool false), .lit (.bool false), .lit (.bool false), .lit (.bool false), .lit (.bool false), .lit (.bool false), .lit (.bool false), .lit (.bool false), .lit (.bool false), .lit (.bool false), .lit (.bool false), .lit (.bool false), .lit (.bool false), .lit (.bool false), .lit (.bool false), .lit (.bool false), .lit (.bool false), .lit (.bool false), .lit (.bool false), .lit (.bool false), .lit (.bool false), .lit (.bool false), .lit (.bool false), .lit (.bool false), .lit (.bool false), .lit (.bool false), .lit (.bool false), .lit (.bool false), .lit (.bool false), .lit (.bool false), .lit (.bool false), .lit (.bool false), .lit (.bool false), .lit (.bool false), .lit (.bool false), .lit (.bool false), .lit (.bool false), .lit (.bool false), .lit (.bool false), .lit (.bool false), .lit (.bool false), .lit (.bool false), .lit (.bool false), .lit (.bool false), .lit (.bool false), .lit (.bool false), .lit (.bool false), .lit (.bool false), .lit (.bool false), .lit (.bool false), .lit (.bool false), .lit (.bool false), .lit (.bool false), .lit (.bool false), .lit (.bool false), .lit (.bool false), .lit (.bool false)]

/-- 'steelyardlaw06.WholeTells': WHATEVER THE INPUT: true; the input reads as it did. -/
def wholeTellsSpec : ChangeSpec := { name := "wholeTells", fn := fun _ => fun
  | [d1, d2, d3] => { results := [.lit (.bool true)], args := [d1, d2, d3] }
  | _ => none }
def wholeTellsRow : OpenClaim := { program := "ytnilfndadahgaaadoor", sum := "8bd6855f94a6df9042b06f5826dfbfb0b0a16e99b7e88aca4d79533f804fd052", func := "steelyard/steelyardlaw06.WholeTells", spec := "wholeTells", named := ["steelyard/digits.tens", "math/bits.overflowError"], apart := false, laid := [("steelyard/digits.tens", laid_steelyard_digits_tens)] }
def WholeTellsSaid : Prop := wholeTellsRow.holds Tryd.pinned (OpenSpec.ofChange wholeTellsSpec)

/-- ITS FALSE NEIGHBOUR: 'it returns false'. Refute it at one input. -/
def wholeTellsWrong : ChangeSpec := { name := "wholeTells", fn := fun _ => fun
  | [d1, d2, d3] => { results := [.lit (.bool false)], args := [d1, d2, d3] }
  | _ => none }
def WholeTellsWrongFalsely : Prop := wholeTellsRow.holds Tryd.pinned (OpenSpec.ofChange wholeTellsWrong)

/-- 'steelyardlaw06.WholeLaws': WHATEVER THE INPUT: true; the input reads as it did. -/
def wholeLawsSpec : ChangeSpec := { name := "wholeLaws", fn := fun _ => fun
  | [d1, d2, d3] => { results := [.lit (.bool true)], args := [d1, d2, d3] }
  | _ => none }
def wholeLawsRow : OpenClaim := { program := "ytnilfndadahgaaadoor", sum := "8bd6855f94a6df9042b06f5826dfbfb0b0a16e99b7e88aca4d79533f804fd052", func := "steelyard/steelyardlaw06.WholeLaws", spec := "wholeLaws", named := ["steelyard/digits.tens", "math/bits.overflowError"], apart := false, laid := [("steelyard/digits.tens", laid_steelyard_digits_tens)] }
def WholeLawsSaid : Prop := wholeLawsRow.holds Tryd.pinned (OpenSpec.ofChange wholeLawsSpec)

/-- ITS FALSE NEIGHBOUR: 'it returns false'. Refute it at one input. -/
def wholeLawsWrong : ChangeSpec := { name := "wholeLaws", fn := fun _ => fun
  | [d1, d2, d3] => { results := [.lit (.bool false)], args := [d1, d2, d3] }
  | _ => none }
def WholeLawsWrongFalsely : Prop := wholeLawsRow.holds Tryd.pinned (OpenSpec.ofChange wholeLawsWrong)

/-- 'steelyardlaw06.WholeOrder': WHATEVER THE INPUT: true; the input reads as it did. -/
def wholeOrderSpec : ChangeSpec := { name := "wholeOrder", fn := fun _ => fun
  | [d1, d2, d3] => { results := [.lit (.bool true)], args := [d1, d2, d3] }
  | _ => none }
def wholeOrderRow : OpenClaim := { program := "ytnilfndadahgaaadoor", sum := "8bd6855f94a6df9042b06f5826dfbfb0b0a16e99b7e88aca4d79533f804fd052", func := "steelyard/steelyardlaw06.WholeOrder", spec := "wholeOrder", named := ["steelyard/digits.tens", "math/bits.overflowError"], apart := false, laid := [("steelyard/digits.tens", laid_steelyard_digits_tens)] }
def WholeOrderSaid : Prop := wholeOrderRow.holds Tryd.pinned (OpenSpec.ofChange wholeOrderSpec)

/-- ITS FALSE NEIGHBOUR: 'it returns false'. Refute it at one input. -/
def wholeOrderWrong : ChangeSpec := { name := "wholeOrder", fn := fun _ => fun
  | [d1, d2, d3] => { results := [.lit (.bool false)], args := [d1, d2, d3] }
  | _ => none }
def WholeOrderWrongFalsely : Prop := wholeOrderRow.holds Tryd.pinned (OpenSpec.ofChange wholeOrderWrong)

/-- 'steelyardlaw06.WholeSigns': WHATEVER THE INPUT: true; the input reads as it did. -/
def wholeSignsSpec : ChangeSpec := { name := "wholeSigns", fn := fun _ => fun
  | [d1, d2, d3] => { results := [.lit (.bool true)], args := [d1, d2, d3] }
  | _ => none }
def wholeSignsRow : OpenClaim := { program := "ytnilfndadahgaaadoor", sum := "8bd6855f94a6df9042b06f5826dfbfb0b0a16e99b7e88aca4d79533f804fd052", func := "steelyard/steelyardlaw06.WholeSigns", spec := "wholeSigns", named := ["steelyard/digits.tens", "math/bits.overflowError"], apart := false, laid := [("steelyard/digits.tens", laid_steelyard_digits_tens)] }
def WholeSignsSaid : Prop := wholeSignsRow.holds Tryd.pinned (OpenSpec.ofChange wholeSignsSpec)

/-- ITS FALSE NEIGHBOUR: 'it returns false'. Refute it at one input. -/
def wholeSignsWrong : ChangeSpec := { name := "wholeSigns", fn := fun _ => fun
  | [d1, d2, d3] => { results := [.lit (.bool false)], args := [d1, d2, d3] }
  | _ => none }
def WholeSignsWrongFalsely : Prop := wholeSignsRow.holds Tryd.pinned (OpenSpec.ofChange wholeSignsWrong)

/-- 'steelyardlaw06.WholeTexts': WHATEVER THE INPUT: true; the input reads as it did. -/
def wholeTextsSpec : ChangeSpec := { name := "wholeTexts", fn := fun _ => fun
  | [d1, d2] => { results := [.lit (.bool true)], args := [d1, d2] }
  | _ => none }
def wholeTextsRow : OpenClaim := { program := "ytnilfndadahgaaadoor", sum := "8bd6855f94a6df9042b06f5826dfbfb0b0a16e99b7e88aca4d79533f804fd052", func := "steelyard/steelyardlaw06.WholeTexts", spec := "wholeTexts", named := ["steelyard/digits.tens", "math/bits.overflowError"], apart := false, laid := [("steelyard/digits.tens", laid_steelyard_digits_tens)] }
def WholeTextsSaid : Prop := wholeTextsRow.holds Tryd.pinned (OpenSpec.ofChange wholeTextsSpec)

/-- ITS FALSE NEIGHBOUR: 'it returns false'. Refute it at one input. -/
def wholeTextsWrong : ChangeSpec := { name := "wholeTexts", fn := fun _ => fun
  | [d1, d2] => { results := [.lit (.bool false)], args := [d1, d2] }
  | _ => none }
def WholeTextsWrongFalsely : Prop := wholeTextsRow.holds Tryd.pinned (OpenSpec.ofChange wholeTextsWrong)

/-- 'steelyardlaw09.LiteralTells': WHATEVER THE INPUT: true; the input reads as it did. -/
def literalTellsSpec : ChangeSpec := { name := "literalTells", fn := fun _ => fun
  | [d] => { results := [.lit (.bool true)], args := [d] }
  | _ => none }
def literalTellsRow : OpenClaim := { program := "ytnilfndadahgaaadoor", sum := "8bd6855f94a6df9042b06f5826dfbfb0b0a16e99b7e88aca4d79533f804fd052", func := "steelyard/steelyardlaw09.LiteralTells", spec := "literalTells", inPlace := ["internal/bytealg.IndexByteString", "internal/bytealg.IndexString"], named := ["steelyard/literal.digit", "internal/bytealg.MaxLen", "steelyard/digits.tens"], apart := false, laid := [("steelyard/digits.tens", laid_steelyard_digits_tens), ("steelyard/literal.digit", laid_steelyard_literal_digit)] }
def LiteralTellsSaid : Prop := literalTellsRow.holds Tryd.pinned (OpenSpec.ofChange literalTellsSpec)

/-- ITS FALSE NEIGHBOUR: 'it returns false'. Refute it at one input. -/
def literalTellsWrong : ChangeSpec := { name := "literalTells", fn := fun _ => fun
  | [d] => { results := [.lit (.bool false)], args := [d] }
  | _ => none }
def LiteralTellsWrongFalsely : Prop := literalTellsRow.holds Tryd.pinned (OpenSpec.ofChange literalTellsWrong)

/-- 'steelyardlaw09.LiteralLongest': WHATEVER THE INPUT: true; the input reads as it did. -/
def literalLongestSpec : ChangeSpec := { name := "literalLongest", fn := fun _ => fun
  | [d1, d2] => { results := [.lit (.bool true)], args := [d1, d2] }
  | _ => none }
def literalLongestRow : OpenClaim := { program := "ytnilfndadahgaaadoor", sum := "8bd6855f94a6df9042b06f5826dfbfb0b0a16e99b7e88aca4d79533f804fd052", func := "steelyard/steelyardlaw09.LiteralLongest", spec := "literalLongest", inPlace := ["internal/bytealg.IndexByteString", "internal/bytealg.IndexString"], named := ["steelyard/literal.digit", "internal/bytealg.MaxLen", "steelyard/digits.tens"], apart := false, laid := [("steelyard/digits.tens", laid_steelyard_digits_tens), ("steelyard/literal.digit", laid_steelyard_literal_digit)] }
def LiteralLongestSaid : Prop := literalLongestRow.holds Tryd.pinned (OpenSpec.ofChange literalLongestSpec)

/-- ITS FALSE NEIGHBOUR: 'it returns false'. Refute it at one input. -/
def literalLongestWrong : ChangeSpec := { name := "literalLongest", fn := fun _ => fun
  | [d1, d2] => { results := [.lit (.bool false)], args := [d1, d2] }
  | _ => none }
def LiteralLongestWrongFalsely : Prop := literalLongestRow.holds Tryd.pinned (OpenSpec.ofChange literalLongestWrong)

/-- 'steelyardlaw09.LiteralParts': WHATEVER THE INPUT: true; the input reads as it did. -/
def literalPartsSpec : ChangeSpec := { name := "literalParts", fn := fun _ => fun
  | [d1, d2] => { results := [.lit (.bool true)], args := [d1, d2] }
  | _ => none }
def literalPartsRow : OpenClaim := { program := "ytnilfndadahgaaadoor", sum := "8bd6855f94a6df9042b06f5826dfbfb0b0a16e99b7e88aca4d79533f804fd052", func := "steelyard/steelyardlaw09.LiteralParts", spec := "literalParts", inPlace := ["internal/bytealg.IndexByteString", "internal/bytealg.IndexString"], recurses := true, named := ["steelyard/literal.digit", "internal/bytealg.MaxLen", "steelyard/digits.tens"], apart := false, laid := [("steelyard/digits.tens", laid_steelyard_digits_tens), ("steelyard/literal.digit", laid_steelyard_literal_digit)] }
def LiteralPartsSaid : Prop := literalPartsRow.holds Tryd.pinned (OpenSpec.ofChange literalPartsSpec)

/-- ITS FALSE NEIGHBOUR: 'it returns false'. Refute it at one input. -/
def literalPartsWrong : ChangeSpec := { name := "literalParts", fn := fun _ => fun
  | [d1, d2] => { results := [.lit (.bool false)], args := [d1, d2] }
  | _ => none }
def LiteralPartsWrongFalsely : Prop := literalPartsRow.holds Tryd.pinned (OpenSpec.ofChange literalPartsWrong)

/-- 'steelyardlaw09.LiteralNoughts': WHATEVER THE INPUT: true; the input reads as it did. -/
def literalNoughtsSpec : ChangeSpec := { name := "literalNoughts", fn := fun _ => fun
  | [d1, d2, d3] => { results := [.lit (.bool true)], args := [d1, d2, d3] }
  | _ => none }
def literalNoughtsRow : OpenClaim := { program := "ytnilfndadahgaaadoor", sum := "8bd6855f94a6df9042b06f5826dfbfb0b0a16e99b7e88aca4d79533f804fd052", func := "steelyard/steelyardlaw09.LiteralNoughts", spec := "literalNoughts", inPlace := ["internal/bytealg.IndexByteString", "internal/bytealg.IndexString"], recurses := true, named := ["steelyard/literal.digit", "internal/bytealg.MaxLen", "steelyard/digits.tens"], apart := false, laid := [("steelyard/digits.tens", laid_steelyard_digits_tens), ("steelyard/literal.digit", laid_steelyard_literal_digit)] }
def LiteralNoughtsSaid : Prop := literalNoughtsRow.holds Tryd.pinned (OpenSpec.ofChange literalNoughtsSpec)

/-- ITS FALSE NEIGHBOUR: 'it returns false'. Refute it at one input. -/
def literalNoughtsWrong : ChangeSpec := { name := "literalNoughts", fn := fun _ => fun
  | [d1, d2, d3] => { results := [.lit (.bool false)], args := [d1, d2, d3] }
  | _ => none }
def LiteralNoughtsWrongFalsely : Prop := literalNoughtsRow.holds Tryd.pinned (OpenSpec.ofChange literalNoughtsWrong)

/- THE SECOND FORM. 'bulk': how many values and letters a reading holds, each counted each time it is reached (what is shared counts as often as it is met; a slice's spare places count too). A statement '..UptoSaid' is the law's where the arguments, and the package variables that the reading takes, are together of bulk at most 1048576: NARROWER than '..Said'. Prove '..Said' where nothing that the law and all that it calls make is longer than what came in: it says more and counts as full. Else prove '..UptoSaid'. A law counts once. -/
mutual
def uptoBulk {H : Type} : DataW H → Nat
  | .lit (.string bytes) => bytes.length + 1
  | .lit _ => 1
  | .nil => 1
  | .ptr d => uptoBulk d + 1
  | .slice elems spare => uptoBulkAll elems + uptoBulkAll spare + 1
  | .agg parts => uptoBulkAll parts + 1
  | .iface _ d => uptoBulk d + 1
  | .map entries => uptoBulkEntries entries + 1
  | .held _ => 1
def uptoBulkAll {H : Type} : List (DataW H) → Nat
  | [] => 0
  | d :: r => uptoBulk d + uptoBulkAll r
def uptoBulkEntries {H : Type} : List (Lit × DataW H) → Nat
  | [] => 0
  | x :: r => uptoBulkEntry x + uptoBulkEntries r
def uptoBulkEntry {H : Type} : Lit × DataW H → Nat
  | (.string bytes, d) => bytes.length + uptoBulk d + 1
  | (_, d) => uptoBulk d + 1
 end
def uptoSmall : (H : Type) → List (DataW H) → Bool := fun _ ds => decide (uptoBulkAll ds ≤ 1048576)
def OpenSpec.upto (s : _root_.Go.ChangeSpec) : _root_.Go.OpenSpec := { _root_.Go.OpenSpec.ofChange s with cond := some uptoSmall }

/-- 'steelyardlaw06.WholeTells', WHERE WHAT IT READS IS OF BULK AT MOST 1048576: true; the input reads as it did. -/
def wholeTellsUptoRow : OpenClaim := { program := "ytnilfndadahgaaadoor", sum := "8bd6855f94a6df9042b06f5826dfbfb0b0a16e99b7e88aca4d79533f804fd052", func := "steelyard/steelyardlaw06.WholeTells", spec := "wholeTells", named := ["steelyard/digits.tens", "math/bits.overflowError"], apart := false, laid := [("steelyard/digits.tens", laid_steelyard_digits_tens)], narrowed := true }
def WholeTellsUptoSaid : Prop := wholeTellsUptoRow.holds Tryd.pinned (OpenSpec.upto wholeTellsSpec)

/-- 'steelyardlaw06.WholeLaws', WHERE WHAT IT READS IS OF BULK AT MOST 1048576: true; the input reads as it did. -/
def wholeLawsUptoRow : OpenClaim := { program := "ytnilfndadahgaaadoor", sum := "8bd6855f94a6df9042b06f5826dfbfb0b0a16e99b7e88aca4d79533f804fd052", func := "steelyard/steelyardlaw06.WholeLaws", spec := "wholeLaws", named := ["steelyard/digits.tens", "math/bits.overflowError"], apart := false, laid := [("steelyard/digits.tens", laid_steelyard_digits_tens)], narrowed := true }
def WholeLawsUptoSaid : Prop := wholeLawsUptoRow.holds Tryd.pinned (OpenSpec.upto wholeLawsSpec)

/-- 'steelyardlaw06.WholeOrder', WHERE WHAT IT READS IS OF BULK AT MOST 1048576: true; the input reads as it did. -/
def wholeOrderUptoRow : OpenClaim := { program := "ytnilfndadahgaaadoor", sum := "8bd6855f94a6df9042b06f5826dfbfb0b0a16e99b7e88aca4d79533f804fd052", func := "steelyard/steelyardlaw06.WholeOrder", spec := "wholeOrder", named := ["steelyard/digits.tens", "math/bits.overflowError"], apart := false, laid := [("steelyard/digits.tens", laid_steelyard_digits_tens)], narrowed := true }
def WholeOrderUptoSaid : Prop := wholeOrderUptoRow.holds Tryd.pinned (OpenSpec.upto wholeOrderSpec)

/-- 'steelyardlaw06.WholeSigns', WHERE WHAT IT READS IS OF BULK AT MOST 1048576: true; the input reads as it did. -/
def wholeSignsUptoRow : OpenClaim := { program := "ytnilfndadahgaaadoor", sum := "8bd6855f94a6df9042b06f5826dfbfb0b0a16e99b7e88aca4d79533f804fd052", func := "steelyard/steelyardlaw06.WholeSigns", spec := "wholeSigns", named := ["steelyard/digits.tens", "math/bits.overflowError"], apart := false, laid := [("steelyard/digits.tens", laid_steelyard_digits_tens)], narrowed := true }
def WholeSignsUptoSaid : Prop := wholeSignsUptoRow.holds Tryd.pinned (OpenSpec.upto wholeSignsSpec)

/-- 'steelyardlaw06.WholeTexts', WHERE WHAT IT READS IS OF BULK AT MOST 1048576: true; the input reads as it did. -/
def wholeTextsUptoRow : OpenClaim := { program := "ytnilfndadahgaaadoor", sum := "8bd6855f94a6df9042b06f5826dfbfb0b0a16e99b7e88aca4d79533f804fd052", func := "steelyard/steelyardlaw06.WholeTexts", spec := "wholeTexts", named := ["steelyard/digits.tens", "math/bits.overflowError"], apart := false, laid := [("steelyard/digits.tens", laid_steelyard_digits_tens)], narrowed := true }
def WholeTextsUptoSaid : Prop := wholeTextsUptoRow.holds Tryd.pinned (OpenSpec.upto wholeTextsSpec)

/-- 'steelyardlaw09.LiteralTells', WHERE WHAT IT READS IS OF BULK AT MOST 1048576: true; the input reads as it did. -/
def literalTellsUptoRow : OpenClaim := { program := "ytnilfndadahgaaadoor", sum := "8bd6855f94a6df9042b06f5826dfbfb0b0a16e99b7e88aca4d79533f804fd052", func := "steelyard/steelyardlaw09.LiteralTells", spec := "literalTells", inPlace := ["internal/bytealg.IndexByteString", "internal/bytealg.IndexString"], named := ["steelyard/literal.digit", "internal/bytealg.MaxLen", "steelyard/digits.tens"], apart := false, laid := [("steelyard/digits.tens", laid_steelyard_digits_tens), ("steelyard/literal.digit", laid_steelyard_literal_digit)], narrowed := true }
def LiteralTellsUptoSaid : Prop := literalTellsUptoRow.holds Tryd.pinned (OpenSpec.upto literalTellsSpec)

/-- 'steelyardlaw09.LiteralLongest', WHERE WHAT IT READS IS OF BULK AT MOST 1048576: true; the input reads as it did. -/
def literalLongestUptoRow : OpenClaim := { program := "ytnilfndadahgaaadoor", sum := "8bd6855f94a6df9042b06f5826dfbfb0b0a16e99b7e88aca4d79533f804fd052", func := "steelyard/steelyardlaw09.LiteralLongest", spec := "literalLongest", inPlace := ["internal/bytealg.IndexByteString", "internal/bytealg.IndexString"], named := ["steelyard/literal.digit", "internal/bytealg.MaxLen", "steelyard/digits.tens"], apart := false, laid := [("steelyard/digits.tens", laid_steelyard_digits_tens), ("steelyard/literal.digit", laid_steelyard_literal_digit)], narrowed := true }
def LiteralLongestUptoSaid : Prop := literalLongestUptoRow.holds Tryd.pinned (OpenSpec.upto literalLongestSpec)

/-- 'steelyardlaw09.LiteralParts', WHERE WHAT IT READS IS OF BULK AT MOST 1048576: true; the input reads as it did. -/
def literalPartsUptoRow : OpenClaim := { program := "ytnilfndadahgaaadoor", sum := "8bd6855f94a6df9042b06f5826dfbfb0b0a16e99b7e88aca4d79533f804fd052", func := "steelyard/steelyardlaw09.LiteralParts", spec := "literalParts", inPlace := ["internal/bytealg.IndexByteString", "internal/bytealg.IndexString"], recurses := true, named := ["steelyard/literal.digit", "internal/bytealg.MaxLen", "steelyard/digits.tens"], apart := false, laid := [("steelyard/digits.tens", laid_steelyard_digits_tens), ("steelyard/literal.digit", laid_steelyard_literal_digit)], narrowed := true }
def LiteralPartsUptoSaid : Prop := literalPartsUptoRow.holds Tryd.pinned (OpenSpec.upto literalPartsSpec)

/-- 'steelyardlaw09.LiteralNoughts', WHERE WHAT IT READS IS OF BULK AT MOST 1048576: true; the input reads as it did. -/
def literalNoughtsUptoRow : OpenClaim := { program := "ytnilfndadahgaaadoor", sum := "8bd6855f94a6df9042b06f5826dfbfb0b0a16e99b7e88aca4d79533f804fd052", func := "steelyard/steelyardlaw09.LiteralNoughts", spec := "literalNoughts", inPlace := ["internal/bytealg.IndexByteString", "internal/bytealg.IndexString"], recurses := true, named := ["steelyard/literal.digit", "internal/bytealg.MaxLen", "steelyard/digits.tens"], apart := false, laid := [("steelyard/digits.tens", laid_steelyard_digits_tens), ("steelyard/literal.digit", laid_steelyard_literal_digit)], narrowed := true }
def LiteralNoughtsUptoSaid : Prop := literalNoughtsUptoRow.holds Tryd.pinned (OpenSpec.upto literalNoughtsSpec)

end Rows
end Go.Proofs.YtnilfndadahgaaaDoor

/-
  NARROWER THAN 'FOR EVERY INPUT', by the rows' own cells (each row's printed sentence says how): DigitsTell: laid · DigitsBack: laid · DigitsParts: laid · DigitsOrder: laid.
  DERIVED. THE GIVEN ROWS OF THIS SEAT. 4 by the template 'for every input the law returns true; each argument reads behind the call as it read before'; 0 by the template 'total and deterministic' (their statements: YtijjnjdfdoaafaaDoorTotals.lean).
  GIVEN WITH THE SEED: the statements are not yours to turn. If you find one false, say at which input.
  Laid BY PROGRAM, IN A SANDBOX (cutbox-rows.mjs): the forced cells as the released guide's own fill.sh prints them over the translation f6330d565024a048… (all of the seat's roots in one cut). By AI agents, Wed Nov 11 2026. No macro, syntax, notation, axiom, sorry.
-/
import Derived.Test.YtijjnjdfdoaafaaDoorChecked
import GoSem.Claim
import GoSem.ClaimJoined
import GoSem.ClaimMapViews
import Derived.JoinedTies
import Derived.KernelRfl
namespace Go.Proofs.YtijjnjdfdoaafaaDoor
/- THE CELL 'sum', in the pinned program and in every row, IS THE sha256 OF THE DUMP (.gsa) THAT YtijjnjdfdoaafaaDoorProg.lean LOADS. Nothing in Lean hashes anything: it is a label: what it is worth is what the hold of that sum in a sandbox is worth. -/
noncomputable def Tryd.pinned : Pinned := { name := "ytijjnjdfdoaafaadoor", sum := "f6330d565024a048c53c5af798157da44898745074b8526b36dbcbe4ac7eeb04", checked := Tryd.checked }
namespace Rows
def none {H : Type} : Left H := { results := [], args := [] }

/- WHAT THE LISTED PACKAGE-LEVEL VARIABLES READ AS WHEN THE CALL BEGINS. Each datum BY PROGRAM (the guide's laid-datum.mjs) off the statement by which the dump's own 'gosem.cut.vars' lays the variable. In a bare row this is a premise. The card (YtijjnjdfdoaafaaDoorCards.lean) ties it to the program's text. -/
def laid_steelyard_digits_tens {H : Type} : DataW H := .agg [.lit (.int .u32 1), .lit (.int .u32 10), .lit (.int .u32 100), .lit (.int .u32 1000), .lit (.int .u32 10000), .lit (.int .u32 100000), .lit (.int .u32 1000000), .lit (.int .u32 10000000), .lit (.int .u32 100000000), .lit (.int .u32 1000000000)]

/-- 'steelyardlaw05.DigitsTell': WHATEVER THE INPUT: true; the input reads as it did. -/
def digitsTellSpec : ChangeSpec := { name := "digitsTell", fn := fun _ => fun
  | [d1, d2, d3] => { results := [.lit (.bool true)], args := [d1, d2, d3] }
  | _ => none }
def digitsTellRow : OpenClaim := { program := "ytijjnjdfdoaafaadoor", sum := "f6330d565024a048c53c5af798157da44898745074b8526b36dbcbe4ac7eeb04", func := "steelyard/steelyardlaw05.DigitsTell", spec := "digitsTell", named := ["steelyard/digits.tens", "math/bits.overflowError"], apart := false, laid := [("steelyard/digits.tens", laid_steelyard_digits_tens)] }
def DigitsTellSaid : Prop := digitsTellRow.holds Tryd.pinned (OpenSpec.ofChange digitsTellSpec)

/-- ITS FALSE NEIGHBOUR: 'it returns false'. Refute it at one input. -/
def digitsTellWrong : ChangeSpec := { name := "digitsTell", fn := fun _ => fun
  | [d1, d2, d3] => { results := [.lit (.bool false)], args := [d1, d2, d3] }
  | _ => none }
def DigitsTellWrongFalsely : Prop := digitsTellRow.holds Tryd.pinned (OpenSpec.ofChange digitsTellWrong)

/-- 'steelyardlaw05.DigitsBack': WHATEVER THE INPUT: true; the input reads as it did. -/
def digitsBackSpec : ChangeSpec := { name := "digitsBack", fn := fun _ => fun
  | [d1, d2, d3] => { results := [.lit (.bool true)], args := [d1, d2, d3] }
  | _ => none }
def digitsBackRow : OpenClaim := { program := "ytijjnjdfdoaafaadoor", sum := "f6330d565024a048c53c5af798157da44898745074b8526b36dbcbe4ac7eeb04", func := "steelyard/steelyardlaw05.DigitsBack", spec := "digitsBack", named := ["steelyard/digits.tens", "math/bits.overflowError"], apart := false, laid := [("steelyard/digits.tens", laid_steelyard_digits_tens)] }
def DigitsBackSaid : Prop := digitsBackRow.holds Tryd.pinned (OpenSpec.ofChange digitsBackSpec)

/-- ITS FALSE NEIGHBOUR: 'it returns false'. Refute it at one input. -/
def digitsBackWrong : ChangeSpec := { name := "digitsBack", fn := fun _ => fun
  | [d1, d2, d3] => { results := [.lit (.bool false)], args := [d1, d2, d3] }
  | _ => none }
def DigitsBackWrongFalsely : Prop := digitsBackRow.holds Tryd.pinned (OpenSpec.ofChange digitsBackWrong)

/-- 'steelyardlaw05.DigitsParts': WHATEVER THE INPUT: true; the input reads as it did. -/
def digitsPartsSpec : ChangeSpec := { name := "digitsParts", fn := fun _ => fun
  | [d1, d2] => { results := [.lit (.bool true)], args := [d1, d2] }
  | _ => none }
def digitsPartsRow : OpenClaim := { program := "ytijjnjdfdoaafaadoor", sum := "f6330d565024a048c53c5af798157da44898745074b8526b36dbcbe4ac7eeb04", func := "steelyard/steelyardlaw05.DigitsParts", spec := "digitsParts", named := ["steelyard/digits.tens", "math/bits.overflowError"], apart := false, laid := [("steelyard/digits.tens", laid_steelyard_digits_tens)] }
def DigitsPartsSaid : Prop := digitsPartsRow.holds Tryd.pinned (OpenSpec.ofChange digitsPartsSpec)

/-- ITS FALSE NEIGHBOUR: 'it returns false'. Refute it at one input. -/
def digitsPartsWrong : ChangeSpec := { name := "digitsParts", fn := fun _ => fun
  | [d1, d2] => { results := [.lit (.bool false)], args := [d1, d2] }
  | _ => none }
def DigitsPartsWrongFalsely : Prop := digitsPartsRow.holds Tryd.pinned (OpenSpec.ofChange digitsPartsWrong)

/-- 'steelyardlaw05.DigitsOrder': WHATEVER THE INPUT: true; the input reads as it did. -/
def digitsOrderSpec : ChangeSpec := { name := "digitsOrder", fn := fun _ => fun
  | [d1, d2] => { results := [.lit (.bool true)], args := [d1, d2] }
  | _ => none }
def digitsOrderRow : OpenClaim := { program := "ytijjnjdfdoaafaadoor", sum := "f6330d565024a048c53c5af798157da44898745074b8526b36dbcbe4ac7eeb04", func := "steelyard/steelyardlaw05.DigitsOrder", spec := "digitsOrder", named := ["steelyard/digits.tens", "math/bits.overflowError"], apart := false, laid := [("steelyard/digits.tens", laid_steelyard_digits_tens)] }
def DigitsOrderSaid : Prop := digitsOrderRow.holds Tryd.pinned (OpenSpec.ofChange digitsOrderSpec)

/-- ITS FALSE NEIGHBOUR: 'it returns false'. Refute it at one input. -/
def digitsOrderWrong : ChangeSpec := { name := "digitsOrder", fn := fun _ => fun
  | [d1, d2] => { results := [.lit (.bool false)], args := [d1, d2] }
  | _ => none }
def DigitsOrderWrongFalsely : Prop := digitsOrderRow.holds Tryd.pinned (OpenSpec.ofChange digitsOrderWrong)

/- THE SECOND FORM. 'bulk': how many values and letters a reading holds, each counted each time it is reached (what is shared counts as often as it is met; a slice's spare places count too). A statement '..UptoSaid' is the law's where the arguments, and the package variables that the reading takes, are together of bulk at most 1048576: NARROWER than '..Said'. Prove '..Said' where nothing that the law and all that it calls make is longer than what came in: it says more and counts as full. Else prove '..UptoSaid'. A law counts once. -/
mutual
def uptoBulk {H : Type} : DataW H → Nat
  | .lit (.string bytes) => bytes.length + 1
  | .lit _ => 1
  | .nil => 1
  | .ptr d => uptoBulk d + 1
  | .slice elems spare => uptoBulkAll elems + uptoBulkAll spare + 1
  | .agg parts => uptoBulkAll parts + 1
  | .iface _ d => uptoBulk d + 1
  | .map entries => uptoBulkEntries entries + 1
  | .held _ => 1
def uptoBulkAll {H : Type} : List (DataW H) → Nat
  | [] => 0
  | d :: r => uptoBulk d + uptoBulkAll r
def uptoBulkEntries {H : Type} : List (Lit × DataW H) → Nat
  | [] => 0
  | x :: r => uptoBulkEntry x + uptoBulkEntries r
def uptoBulkEntry {H : Type} : Lit × DataW H → Nat
  | (.string bytes, d) => bytes.length + uptoBulk d + 1
  | (_, d) => uptoBulk d + 1
 end
def uptoSmall : (H : Type) → List (DataW H) → Bool := fun _ ds => decide (uptoBulkAll ds ≤ 1048576)
def OpenSpec.upto (s : _root_.Go.ChangeSpec) : _root_.Go.OpenSpec := { _root_.Go.OpenSpec.ofChange s with cond := some uptoSmall }

/-- 'steelyardlaw05.DigitsTell', WHERE WHAT IT READS IS OF BULK AT MOST 1048576: true; the input reads as it did. -/
def digitsTellUptoRow : OpenClaim := { program := "ytijjnjdfdoaafaadoor", sum := "f6330d565024a048c53c5af798157da44898745074b8526b36dbcbe4ac7eeb04", func := "steelyard/steelyardlaw05.DigitsTell", spec := "digitsTell", named := ["steelyard/digits.tens", "math/bits.overflowError"], apart := false, laid := [("steelyard/digits.tens", laid_steelyard_digits_tens)], narrowed := true }
def DigitsTellUptoSaid : Prop := digitsTellUptoRow.holds Tryd.pinned (OpenSpec.upto digitsTellSpec)

/-- 'steelyardlaw05.DigitsBack', WHERE WHAT IT READS IS OF BULK AT MOST 1048576: true; the input reads as it did. -/
def digitsBackUptoRow : OpenClaim := { program := "ytijjnjdfdoaafaadoor", sum := "f6330d565024a048c53c5af798157da44898745074b8526b36dbcbe4ac7eeb04", func := "steelyard/steelyardlaw05.DigitsBack", spec := "digitsBack", named := ["steelyard/digits.tens", "math/bits.overflowError"], apart := false, laid := [("steelyard/digits.tens", laid_steelyard_digits_tens)], narrowed := true }
def DigitsBackUptoSaid : Prop := digitsBackUptoRow.holds Tryd.pinned (OpenSpec.upto digitsBackSpec)

/-- 'steelyardlaw05.DigitsParts', WHERE WHAT IT READS IS OF BULK AT MOST 1048576: true; the input reads as it did. -/
def digitsPartsUptoRow : OpenClaim := { program := "ytijjnjdfdoaafaadoor", sum := "f6330d565024a048c53c5af798157da44898745074b8526b36dbcbe4ac7eeb04", func := "steelyard/steelyardlaw05.DigitsParts", spec := "digitsParts", named := ["steelyard/digits.tens", "math/bits.overflowError"], apart := false, laid := [("steelyard/digits.tens", laid_steelyard_digits_tens)], narrowed := true }
def DigitsPartsUptoSaid : Prop := digitsPartsUptoRow.holds Tryd.pinned (OpenSpec.upto digitsPartsSpec)

/-- 'steelyardlaw05.DigitsOrder', WHERE WHAT IT READS IS OF BULK AT MOST 1048576: true; the input reads as it did. -/
def digitsOrderUptoRow : OpenClaim := { program := "ytijjnjdfdoaafaadoor", sum := "f6330d565024a048c53c5af798157da44898745074b8526b36dbcbe4ac7eeb04", func := "steelyard/steelyardlaw05.DigitsOrder", spec := "digitsOrder", named := ["steelyard/digits.tens", "math/bits.overflowError"], apart := false, laid := [("steelyard/digits.tens", laid_steelyard_digits_tens)], narrowed := true }
def DigitsOrderUptoSaid : Prop := digitsOrderUptoRow.holds Tryd.pinned (OpenSpec.upto digitsOrderSpec)

end Rows
end Go.Proofs.YtijjnjdfdoaafaaDoor

/-
  NARROWER THAN 'FOR EVERY INPUT', by the rows' own cells (each row's printed sentence says how): EncloseTells: laid · EncloseMore: laid · DecimalTells: laid · DecimalBack: laid · DecimalNegs: laid · DecimalWhole: laid · DecimalOrder: laid · DecimalBounds: laid.
  DERIVED. THE GIVEN ROWS OF THIS SEAT. 8 by the template 'for every input the law returns true; each argument reads behind the call as it read before'; 0 by the template 'total and deterministic' (their statements: YtjgmmaeafodpmaaGreatDoorTotals.lean).
  GIVEN WITH THE SEED: the statements are not yours to turn. If you find one false, say at which input.
  Laid BY PROGRAM, IN A SANDBOX (cutbox-rows.mjs): the forced cells as the released guide's own fill.sh prints them over the translation f9a9ce879b09d222… (all of the seat's roots in one cut). By AI agents, Wed Nov 11 2026. No macro, syntax, notation, axiom, sorry.
-/
import Derived.Test.YtjgmmaeafodpmaaGreatDoorChecked
import GoSem.Claim
import GoSem.ClaimJoined
import GoSem.ClaimMapViews
import Derived.JoinedTies
import Derived.KernelRfl
namespace Go.Proofs.YtjgmmaeafodpmaaGreatDoor
/- THE CELL 'sum', in the pinned program and in every row, IS THE sha256 OF THE DUMP (.gsa) THAT YtjgmmaeafodpmaaGreatDoorProg.lean LOADS. Nothing in Lean hashes anything: it is a label: what it is worth is what the hold of that sum in a sandbox is worth. -/
noncomputable def Tryz.pinned : Pinned := { name := "ytjgmmaeafodpmaagreatdoor", sum := "f9a9ce879b09d222f3daed7d214fd0b7c48fffcdcc2dedae5a323e400d64596e", checked := Tryz.checked }
namespace Rows
def none {H : Type} : Left H := { results := [], args := [] }

/- WHAT THE LISTED PACKAGE-LEVEL VARIABLES READ AS WHEN THE CALL BEGINS. Each datum BY PROGRAM (the guide's laid-datum.mjs) off the statement by which the dump's own 'gosem.cut.vars' lays the variable. In a bare row this is a premise. The card (YtjgmmaeafodpmaaGreatDoorCards.lean) ties it to the program's text. -/
def laid_steelyard_digits_tens {H : Type} : DataW H := .agg [.lit (.int .u32 1), .lit (.int .u32 10), .lit (.int .u32 100), .lit (.int .u32 1000), .lit (.int .u32 10000), .lit (.int .u32 100000), .lit (.int .u32 1000000), .lit (.int .u32 10000000), .lit (.int .u32 100000000), .lit (.int .u32 1000000000)]

/-- 'steelyardlaw25.EncloseTells': WHATEVER THE INPUT: true; the input reads as it did. -/
def encloseTellsSpec : ChangeSpec := { name := "encloseTells", fn := fun _ => fun
  | [d1, d2] => { results := [.lit (.bool true)], args := [d1, d2] }
  | _ => none }
def encloseTellsRow : OpenClaim := { program := "ytjgmmaeafodpmaagreatdoor", sum := "f9a9ce879b09d222f3daed7d214fd0b7c48fffcdcc2dedae5a323e400d64596e", func := "steelyard/steelyardlaw25.EncloseTells", spec := "encloseTells", inPlace := ["internal/abi.NoEscape", "internal/bytealg.MakeNoZero"], named := ["steelyard/digits.tens", "math/bits.overflowError"], apart := false, laid := [("steelyard/digits.tens", laid_steelyard_digits_tens)] }
def EncloseTellsSaid : Prop := encloseTellsRow.holds Tryz.pinned (OpenSpec.ofChange encloseTellsSpec)

/-- ITS FALSE NEIGHBOUR: 'it returns false'. Refute it at one input. -/
def encloseTellsWrong : ChangeSpec := { name := "encloseTells", fn := fun _ => fun
  | [d1, d2] => { results := [.lit (.bool false)], args := [d1, d2] }
  | _ => none }
def EncloseTellsWrongFalsely : Prop := encloseTellsRow.holds Tryz.pinned (OpenSpec.ofChange encloseTellsWrong)

/-- 'steelyardlaw25.EncloseMore': WHATEVER THE INPUT: true; the input reads as it did. -/
def encloseMoreSpec : ChangeSpec := { name := "encloseMore", fn := fun _ => fun
  | [d1, d2, d3] => { results := [.lit (.bool true)], args := [d1, d2, d3] }
  | _ => none }
def encloseMoreRow : OpenClaim := { program := "ytjgmmaeafodpmaagreatdoor", sum := "f9a9ce879b09d222f3daed7d214fd0b7c48fffcdcc2dedae5a323e400d64596e", func := "steelyard/steelyardlaw25.EncloseMore", spec := "encloseMore", inPlace := ["internal/abi.NoEscape", "internal/bytealg.MakeNoZero"], named := ["steelyard/digits.tens", "math/bits.overflowError"], apart := false, laid := [("steelyard/digits.tens", laid_steelyard_digits_tens)] }
def EncloseMoreSaid : Prop := encloseMoreRow.holds Tryz.pinned (OpenSpec.ofChange encloseMoreSpec)

/-- ITS FALSE NEIGHBOUR: 'it returns false'. Refute it at one input. -/
def encloseMoreWrong : ChangeSpec := { name := "encloseMore", fn := fun _ => fun
  | [d1, d2, d3] => { results := [.lit (.bool false)], args := [d1, d2, d3] }
  | _ => none }
def EncloseMoreWrongFalsely : Prop := encloseMoreRow.holds Tryz.pinned (OpenSpec.ofChange encloseMoreWrong)

/-- 'steelyardlaw10.DecimalTells': WHATEVER THE INPUT: true; the input reads as it did. -/
def decimalTellsSpec : ChangeSpec := { name := "decimalTells", fn := fun _ => fun
  | [d1, d2, d3] => { results := [.lit (.bool true)], args := [d1, d2, d3] }
  | _ => none }
def decimalTellsRow : OpenClaim := { program := "ytjgmmaeafodpmaagreatdoor", sum := "f9a9ce879b09d222f3daed7d214fd0b7c48fffcdcc2dedae5a323e400d64596e", func := "steelyard/steelyardlaw10.DecimalTells", spec := "decimalTells", inPlace := ["internal/abi.NoEscape", "internal/bytealg.MakeNoZero", "internal/bytealg.IndexByteString", "internal/bytealg.IndexString"], named := ["steelyard/digits.tens", "math/bits.overflowError", "internal/bytealg.MaxLen"], apart := false, laid := [("steelyard/digits.tens", laid_steelyard_digits_tens)] }
def DecimalTellsSaid : Prop := decimalTellsRow.holds Tryz.pinned (OpenSpec.ofChange decimalTellsSpec)

/-- ITS FALSE NEIGHBOUR: 'it returns false'. Refute it at one input. -/
def decimalTellsWrong : ChangeSpec := { name := "decimalTells", fn := fun _ => fun
  | [d1, d2, d3] => { results := [.lit (.bool false)], args := [d1, d2, d3] }
  | _ => none }
def DecimalTellsWrongFalsely : Prop := decimalTellsRow.holds Tryz.pinned (OpenSpec.ofChange decimalTellsWrong)

/-- 'steelyardlaw10.DecimalBack': WHATEVER THE INPUT: true; the input reads as it did. -/
def decimalBackSpec : ChangeSpec := { name := "decimalBack", fn := fun _ => fun
  | [d1, d2] => { results := [.lit (.bool true)], args := [d1, d2] }
  | _ => none }
def decimalBackRow : OpenClaim := { program := "ytjgmmaeafodpmaagreatdoor", sum := "f9a9ce879b09d222f3daed7d214fd0b7c48fffcdcc2dedae5a323e400d64596e", func := "steelyard/steelyardlaw10.DecimalBack", spec := "decimalBack", inPlace := ["internal/abi.NoEscape", "internal/bytealg.MakeNoZero", "internal/bytealg.IndexByteString", "internal/bytealg.IndexString"], named := ["steelyard/digits.tens", "math/bits.overflowError", "internal/bytealg.MaxLen"], apart := false, laid := [("steelyard/digits.tens", laid_steelyard_digits_tens)] }
def DecimalBackSaid : Prop := decimalBackRow.holds Tryz.pinned (OpenSpec.ofChange decimalBackSpec)

/-- ITS FALSE NEIGHBOUR: 'it returns false'. Refute it at one input. -/
def decimalBackWrong : ChangeSpec := { name := "decimalBack", fn := fun _ => fun
  | [d1, d2] => { results := [.lit (.bool false)], args := [d1, d2] }
  | _ => none }
def DecimalBackWrongFalsely : Prop := decimalBackRow.holds Tryz.pinned (OpenSpec.ofChange decimalBackWrong)

/-- 'steelyardlaw10.DecimalNegs': WHATEVER THE INPUT: true; the input reads as it did. -/
def decimalNegsSpec : ChangeSpec := { name := "decimalNegs", fn := fun _ => fun
  | [d1, d2] => { results := [.lit (.bool true)], args := [d1, d2] }
  | _ => none }
def decimalNegsRow : OpenClaim := { program := "ytjgmmaeafodpmaagreatdoor", sum := "f9a9ce879b09d222f3daed7d214fd0b7c48fffcdcc2dedae5a323e400d64596e", func := "steelyard/steelyardlaw10.DecimalNegs", spec := "decimalNegs", inPlace := ["internal/abi.NoEscape", "internal/bytealg.MakeNoZero", "internal/bytealg.IndexByteString", "internal/bytealg.IndexString"], named := ["steelyard/digits.tens", "math/bits.overflowError", "internal/bytealg.MaxLen"], apart := false, laid := [("steelyard/digits.tens", laid_steelyard_digits_tens)] }
def DecimalNegsSaid : Prop := decimalNegsRow.holds Tryz.pinned (OpenSpec.ofChange decimalNegsSpec)

/-- ITS FALSE NEIGHBOUR: 'it returns false'. Refute it at one input. -/
def decimalNegsWrong : ChangeSpec := { name := "decimalNegs", fn := fun _ => fun
  | [d1, d2] => { results := [.lit (.bool false)], args := [d1, d2] }
  | _ => none }
def DecimalNegsWrongFalsely : Prop := decimalNegsRow.holds Tryz.pinned (OpenSpec.ofChange decimalNegsWrong)

/-- 'steelyardlaw10.DecimalWhole': WHATEVER THE INPUT: true; the input reads as it did. -/
def decimalWholeSpec : ChangeSpec := { name := "decimalWhole", fn := fun _ => fun
  | [d1, d2, d3] => { results := [.lit (.bool true)], args := [d1, d2, d3] }
  | _ => none }
def decimalWholeRow : OpenClaim := { program := "ytjgmmaeafodpmaagreatdoor", sum := "f9a9ce879b09d222f3daed7d214fd0b7c48fffcdcc2dedae5a323e400d64596e", func := "steelyard/steelyardlaw10.DecimalWhole", spec := "decimalWhole", inPlace := ["internal/abi.NoEscape", "internal/bytealg.MakeNoZero", "internal/bytealg.IndexByteString", "internal/bytealg.IndexString"], named := ["steelyard/digits.tens", "math/bits.overflowError", "internal/bytealg.MaxLen"], apart := false, laid := [("steelyard/digits.tens", laid_steelyard_digits_tens)] }
def DecimalWholeSaid : Prop := decimalWholeRow.holds Tryz.pinned (OpenSpec.ofChange decimalWholeSpec)

/-- ITS FALSE NEIGHBOUR: 'it returns false'. Refute it at one input. -/
def decimalWholeWrong : ChangeSpec := { name := "decimalWhole", fn := fun _ => fun
  | [d1, d2, d3] => { results := [.lit (.bool false)], args := [d1, d2, d3] }
  | _ => none }
def DecimalWholeWrongFalsely : Prop := decimalWholeRow.holds Tryz.pinned (OpenSpec.ofChange decimalWholeWrong)

/-- 'steelyardlaw10.DecimalOrder': WHATEVER THE INPUT: true; the input reads as it did. -/
def decimalOrderSpec : ChangeSpec := { name := "decimalOrder", fn := fun _ => fun
  | [d1, d2, d3] => { results := [.lit (.bool true)], args := [d1, d2, d3] }
  | _ => none }
def decimalOrderRow : OpenClaim := { program := "ytjgmmaeafodpmaagreatdoor", sum := "f9a9ce879b09d222f3daed7d214fd0b7c48fffcdcc2dedae5a323e400d64596e", func := "steelyard/steelyardlaw10.DecimalOrder", spec := "decimalOrder", inPlace := ["internal/abi.NoEscape", "internal/bytealg.MakeNoZero", "internal/bytealg.IndexByteString", "internal/bytealg.IndexString"], named := ["steelyard/digits.tens", "math/bits.overflowError", "internal/bytealg.MaxLen"], apart := false, laid := [("steelyard/digits.tens", laid_steelyard_digits_tens)] }
def DecimalOrderSaid : Prop := decimalOrderRow.holds Tryz.pinned (OpenSpec.ofChange decimalOrderSpec)

/-- ITS FALSE NEIGHBOUR: 'it returns false'. Refute it at one input. -/
def decimalOrderWrong : ChangeSpec := { name := "decimalOrder", fn := fun _ => fun
  | [d1, d2, d3] => { results := [.lit (.bool false)], args := [d1, d2, d3] }
  | _ => none }
def DecimalOrderWrongFalsely : Prop := decimalOrderRow.holds Tryz.pinned (OpenSpec.ofChange decimalOrderWrong)

/-- 'steelyardlaw10.DecimalBounds': WHATEVER THE INPUT: true; the input reads as it did. -/
def decimalBoundsSpec : ChangeSpec := { name := "decimalBounds", fn := fun _ => fun
  | [d1, d2] => { results := [.lit (.bool true)], args := [d1, d2] }
  | _ => none }
def decimalBoundsRow : OpenClaim := { program := "ytjgmmaeafodpmaagreatdoor", sum := "f9a9ce879b09d222f3daed7d214fd0b7c48fffcdcc2dedae5a323e400d64596e", func := "steelyard/steelyardlaw10.DecimalBounds", spec := "decimalBounds", inPlace := ["internal/abi.NoEscape", "internal/bytealg.MakeNoZero", "internal/bytealg.IndexByteString", "internal/bytealg.IndexString"], named := ["steelyard/digits.tens", "math/bits.overflowError", "internal/bytealg.MaxLen"], apart := false, laid := [("steelyard/digits.tens", laid_steelyard_digits_tens)] }
def DecimalBoundsSaid : Prop := decimalBoundsRow.holds Tryz.pinned (OpenSpec.ofChange decimalBoundsSpec)

/-- ITS FALSE NEIGHBOUR: 'it returns false'. Refute it at one input. -/
def decimalBoundsWrong : ChangeSpec := { name := "decimalBounds", fn := fun _ => fun
  | [d1, d2] => { results := [.lit (.bool false)], args := [d1, d2] }
  | _ => none }
def DecimalBoundsWrongFalsely : Prop := decimalBoundsRow.holds Tryz.pinned (OpenSpec.ofChange decimalBoundsWrong)

/- THE SECOND FORM. 'bulk': how many values and letters a reading holds, each counted each time it is reached (what is shared counts as often as it is met; a slice's spare places count too). A statement '..UptoSaid' is the law's where the arguments, and the package variables that the reading takes, are together of bulk at most 1048576: NARROWER than '..Said'. Prove '..Said' where nothing that the law and all that it calls make is longer than what came in: it says more and counts as full. Else prove '..UptoSaid'. A law counts once. -/
mutual
def uptoBulk {H : Type} : DataW H → Nat
  | .lit (.string bytes) => bytes.length + 1
  | .lit _ => 1
  | .nil => 1
  | .ptr d => uptoBulk d + 1
  | .slice elems spare => uptoBulkAll elems + uptoBulkAll spare + 1
  | .agg parts => uptoBulkAll parts + 1
  | .iface _ d => uptoBulk d + 1
  | .map entries => uptoBulkEntries entries + 1
  | .held _ => 1
def uptoBulkAll {H : Type} : List (DataW H) → Nat
  | [] => 0
  | d :: r => uptoBulk d + uptoBulkAll r
def uptoBulkEntries {H : Type} : List (Lit × DataW H) → Nat
  | [] => 0
  | x :: r => uptoBulkEntry x + uptoBulkEntries r
def uptoBulkEntry {H : Type} : Lit × DataW H → Nat
  | (.string bytes, d) => bytes.length + uptoBulk d + 1
  | (_, d) => uptoBulk d + 1
 end
def uptoSmall : (H : Type) → List (DataW H) → Bool := fun _ ds => decide (uptoBulkAll ds ≤ 1048576)
def OpenSpec.upto (s : _root_.Go.ChangeSpec) : _root_.Go.OpenSpec := { _root_.Go.OpenSpec.ofChange s with cond := some uptoSmall }

/-- 'steelyardlaw25.EncloseTells', WHERE WHAT IT READS IS OF BULK AT MOST 1048576: true; the input reads as it did. -/
def encloseTellsUptoRow : OpenClaim := { program := "ytjgmmaeafodpmaagreatdoor", sum := "f9a9ce879b09d222f3daed7d214fd0b7c48fffcdcc2dedae5a323e400d64596e", func := "steelyard/steelyardlaw25.EncloseTells", spec := "encloseTells", inPlace := ["internal/abi.NoEscape", "internal/bytealg.MakeNoZero"], named := ["steelyard/digits.tens", "math/bits.overflowError"], apart := false, laid := [("steelyard/digits.tens", laid_steelyard_digits_tens)], narrowed := true }
def EncloseTellsUptoSaid : Prop := encloseTellsUptoRow.holds Tryz.pinned (OpenSpec.upto encloseTellsSpec)

/-- 'steelyardlaw25.EncloseMore', WHERE WHAT IT READS IS OF BULK AT MOST 1048576: true; the input reads as it did. -/
def encloseMoreUptoRow : OpenClaim := { program := "ytjgmmaeafodpmaagreatdoor", sum := "f9a9ce879b09d222f3daed7d214fd0b7c48fffcdcc2dedae5a323e400d64596e", func := "steelyard/steelyardlaw25.EncloseMore", spec := "encloseMore", inPlace := ["internal/abi.NoEscape", "internal/bytealg.MakeNoZero"], named := ["steelyard/digits.tens", "math/bits.overflowError"], apart := false, laid := [("steelyard/digits.tens", laid_steelyard_digits_tens)], narrowed := true }
def EncloseMoreUptoSaid : Prop := encloseMoreUptoRow.holds Tryz.pinned (OpenSpec.upto encloseMoreSpec)

/-- 'steelyardlaw10.DecimalTells', WHERE WHAT IT READS IS OF BULK AT MOST 1048576: true; the input reads as it did. -/
def decimalTellsUptoRow : OpenClaim := { program := "ytjgmmaeafodpmaagreatdoor", sum := "f9a9ce879b09d222f3daed7d214fd0b7c48fffcdcc2dedae5a323e400d64596e", func := "steelyard/steelyardlaw10.DecimalTells", spec := "decimalTells", inPlace := ["internal/abi.NoEscape", "internal/bytealg.MakeNoZero", "internal/bytealg.IndexByteString", "internal/bytealg.IndexString"], named := ["steelyard/digits.tens", "math/bits.overflowError", "internal/bytealg.MaxLen"], apart := false, laid := [("steelyard/digits.tens", laid_steelyard_digits_tens)], narrowed := true }
def DecimalTellsUptoSaid : Prop := decimalTellsUptoRow.holds Tryz.pinned (OpenSpec.upto decimalTellsSpec)

/-- 'steelyardlaw10.DecimalBack', WHERE WHAT IT READS IS OF BULK AT MOST 1048576: true; the input reads as it did. -/
def decimalBackUptoRow : OpenClaim := { program := "ytjgmmaeafodpmaagreatdoor", sum := "f9a9ce879b09d222f3daed7d214fd0b7c48fffcdcc2dedae5a323e400d64596e", func := "steelyard/steelyardlaw10.DecimalBack", spec := "decimalBack", inPlace := ["internal/abi.NoEscape", "internal/bytealg.MakeNoZero", "internal/bytealg.IndexByteString", "internal/bytealg.IndexString"], named := ["steelyard/digits.tens", "math/bits.overflowError", "internal/bytealg.MaxLen"], apart := false, laid := [("steelyard/digits.tens", laid_steelyard_digits_tens)], narrowed := true }
def DecimalBackUptoSaid : Prop := decimalBackUptoRow.holds Tryz.pinned (OpenSpec.upto decimalBackSpec)

/-- 'steelyardlaw10.DecimalNegs', WHERE WHAT IT READS IS OF BULK AT MOST 1048576: true; the input reads as it did. -/
def decimalNegsUptoRow : OpenClaim := { program := "ytjgmmaeafodpmaagreatdoor", sum := "f9a9ce879b09d222f3daed7d214fd0b7c48fffcdcc2dedae5a323e400d64596e", func := "steelyard/steelyardlaw10.DecimalNegs", spec := "decimalNegs", inPlace := ["internal/abi.NoEscape", "internal/bytealg.MakeNoZero", "internal/bytealg.IndexByteString", "internal/bytealg.IndexString"], named := ["steelyard/digits.tens", "math/bits.overflowError", "internal/bytealg.MaxLen"], apart := false, laid := [("steelyard/digits.tens", laid_steelyard_digits_tens)], narrowed := true }
def DecimalNegsUptoSaid : Prop := decimalNegsUptoRow.holds Tryz.pinned (OpenSpec.upto decimalNegsSpec)

/-- 'steelyardlaw10.DecimalWhole', WHERE WHAT IT READS IS OF BULK AT MOST 1048576: true; the input reads as it did. -/
def decimalWholeUptoRow : OpenClaim := { program := "ytjgmmaeafodpmaagreatdoor", sum := "f9a9ce879b09d222f3daed7d214fd0b7c48fffcdcc2dedae5a323e400d64596e", func := "steelyard/steelyardlaw10.DecimalWhole", spec := "decimalWhole", inPlace := ["internal/abi.NoEscape", "internal/bytealg.MakeNoZero", "internal/bytealg.IndexByteString", "internal/bytealg.IndexString"], named := ["steelyard/digits.tens", "math/bits.overflowError", "internal/bytealg.MaxLen"], apart := false, laid := [("steelyard/digits.tens", laid_steelyard_digits_tens)], narrowed := true }
def DecimalWholeUptoSaid : Prop := decimalWholeUptoRow.holds Tryz.pinned (OpenSpec.upto decimalWholeSpec)

/-- 'steelyardlaw10.DecimalOrder', WHERE WHAT IT READS IS OF BULK AT MOST 1048576: true; the input reads as it did. -/
def decimalOrderUptoRow : OpenClaim := { program := "ytjgmmaeafodpmaagreatdoor", sum := "f9a9ce879b09d222f3daed7d214fd0b7c48fffcdcc2dedae5a323e400d64596e", func := "steelyard/steelyardlaw10.DecimalOrder", spec := "decimalOrder", inPlace := ["internal/abi.NoEscape", "internal/bytealg.MakeNoZero", "internal/bytealg.IndexByteString", "internal/bytealg.IndexString"], named := ["steelyard/digits.tens", "math/bits.overflowError", "internal/bytealg.MaxLen"], apart := false, laid := [("steelyard/digits.tens", laid_steelyard_digits_tens)], narrowed := true }
def DecimalOrderUptoSaid : Prop := decimalOrderUptoRow.holds Tryz.pinned (OpenSpec.upto decimalOrderSpec)

/-- 'steelyardlaw10.DecimalBounds', WHERE WHAT IT READS IS OF BULK AT MOST 1048576: true; the input reads as it did. -/
def decimalBoundsUptoRow : OpenClaim := { program := "ytjgmmaeafodpmaagreatdoor", sum := "f9a9ce879b09d222f3daed7d214fd0b7c48fffcdcc2dedae5a323e400d64596e", func := "steelyard/steelyardlaw10.DecimalBounds", spec := "decimalBounds", inPlace := ["internal/abi.NoEscape", "internal/bytealg.MakeNoZero", "internal/bytealg.IndexByteString", "internal/bytealg.IndexString"], named := ["steelyard/digits.tens", "math/bits.overflowError", "internal/bytealg.MaxLen"], apart := false, laid := [("steelyard/digits.tens", laid_steelyard_digits_tens)], narrowed := true }
def DecimalBoundsUptoSaid : Prop := decimalBoundsUptoRow.holds Tryz.pinned (OpenSpec.upto decimalBoundsSpec)

end Rows
end Go.Proofs.YtjgmmaeafodpmaaGreatDoor

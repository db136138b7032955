/-
  No cell of these rows narrows 'for every input' (looked for: loops, veiled, ifaces, maps, wideKeys, modest, calm, conditions, laid).
  DERIVED. THE GIVEN ROWS OF THIS SEAT. 9 by the template 'for every input the law returns true; each argument reads behind the call as it read before'; 0 by the template 'total and deterministic' (their statements: YthcnnkajnmnloaaTotals.lean).
  GIVEN WITH THE SEED: the statements are not yours to turn. If you find one false, say at which input.
  Laid BY PROGRAM, IN A SANDBOX (cutbox-rows.mjs): the forced cells as the released guide's own fill.sh prints them over the translation f0bf039a85934460… (all of the seat's roots in one cut). By AI agents, Wed Nov 11 2026. No macro, syntax, notation, axiom, sorry.
-/
import Derived.Test.YthcnnkajnmnloaaChecked
import GoSem.Claim
import GoSem.ClaimJoined
import GoSem.ClaimMapViews
import Derived.JoinedTies
import Derived.KernelRfl
namespace Go.Proofs.Ythcnnkajnmnloaa
/- THE CELL 'sum', in the pinned program and in every row, IS THE sha256 OF THE DUMP (.gsa) THAT YthcnnkajnmnloaaProg.lean LOADS. Nothing in Lean hashes anything: it is a label: what it is worth is what the hold of that sum in a sandbox is worth. -/
noncomputable def Try.pinned : Pinned := { name := "ythcnnkajnmnloaa", sum := "f0bf039a859344609d33478b5a5a30621784eda277420e6662f6a608bb863aaa", checked := Try.checked }
namespace Rows
def none {H : Type} : Left H := { results := [], args := [] }

/-- 'steelyardlaw02.MulTells': WHATEVER THE INPUT: true; the input reads as it did. -/
def mulTellsSpec : ChangeSpec := { name := "mulTells", fn := fun _ => fun
  | [d1, d2, d3] => { results := [.lit (.bool true)], args := [d1, d2, d3] }
  | _ => none }
def mulTellsRow : OpenClaim := { program := "ythcnnkajnmnloaa", sum := "f0bf039a859344609d33478b5a5a30621784eda277420e6662f6a608bb863aaa", func := "steelyard/steelyardlaw02.MulTells", spec := "mulTells", apart := false }
def MulTellsSaid : Prop := mulTellsRow.holds Try.pinned (OpenSpec.ofChange mulTellsSpec)

/-- ITS FALSE NEIGHBOUR: 'it returns false'. Refute it at one input. -/
def mulTellsWrong : ChangeSpec := { name := "mulTells", fn := fun _ => fun
  | [d1, d2, d3] => { results := [.lit (.bool false)], args := [d1, d2, d3] }
  | _ => none }
def MulTellsWrongFalsely : Prop := mulTellsRow.holds Try.pinned (OpenSpec.ofChange mulTellsWrong)

/-- 'steelyardlaw02.MulShifts': WHATEVER THE INPUT: true; the input reads as it did. -/
def mulShiftsSpec : ChangeSpec := { name := "mulShifts", fn := fun _ => fun
  | [d1, d2, d3] => { results := [.lit (.bool true)], args := [d1, d2, d3] }
  | _ => none }
def mulShiftsRow : OpenClaim := { program := "ythcnnkajnmnloaa", sum := "f0bf039a859344609d33478b5a5a30621784eda277420e6662f6a608bb863aaa", func := "steelyard/steelyardlaw02.MulShifts", spec := "mulShifts", apart := false }
def MulShiftsSaid : Prop := mulShiftsRow.holds Try.pinned (OpenSpec.ofChange mulShiftsSpec)

/-- ITS FALSE NEIGHBOUR: 'it returns false'. Refute it at one input. -/
def mulShiftsWrong : ChangeSpec := { name := "mulShifts", fn := fun _ => fun
  | [d1, d2, d3] => { results := [.lit (.bool false)], args := [d1, d2, d3] }
  | _ => none }
def MulShiftsWrongFalsely : Prop := mulShiftsRow.holds Try.pinned (OpenSpec.ofChange mulShiftsWrong)

/-- 'steelyardlaw02.MulBits': WHATEVER THE INPUT: true; the input reads as it did. -/
def mulBitsSpec : ChangeSpec := { name := "mulBits", fn := fun _ => fun
  | [d1, d2, d3] => { results := [.lit (.bool true)], args := [d1, d2, d3] }
  | _ => none }
def mulBitsRow : OpenClaim := { program := "ythcnnkajnmnloaa", sum := "f0bf039a859344609d33478b5a5a30621784eda277420e6662f6a608bb863aaa", func := "steelyard/steelyardlaw02.MulBits", spec := "mulBits", apart := false }
def MulBitsSaid : Prop := mulBitsRow.holds Try.pinned (OpenSpec.ofChange mulBitsSpec)

/-- ITS FALSE NEIGHBOUR: 'it returns false'. Refute it at one input. -/
def mulBitsWrong : ChangeSpec := { name := "mulBits", fn := fun _ => fun
  | [d1, d2, d3] => { results := [.lit (.bool false)], args := [d1, d2, d3] }
  | _ => none }
def MulBitsWrongFalsely : Prop := mulBitsRow.holds Try.pinned (OpenSpec.ofChange mulBitsWrong)

/-- 'steelyardlaw01.NatTells': WHATEVER THE INPUT: true; the input reads as it did. -/
def natTellsSpec : ChangeSpec := { name := "natTells", fn := fun _ => fun
  | [d1, d2, d3] => { results := [.lit (.bool true)], args := [d1, d2, d3] }
  | _ => none }
def natTellsRow : OpenClaim := { program := "ythcnnkajnmnloaa", sum := "f0bf039a859344609d33478b5a5a30621784eda277420e6662f6a608bb863aaa", func := "steelyard/steelyardlaw01.NatTells", spec := "natTells", apart := false }
def NatTellsSaid : Prop := natTellsRow.holds Try.pinned (OpenSpec.ofChange natTellsSpec)

/-- ITS FALSE NEIGHBOUR: 'it returns false'. Refute it at one input. -/
def natTellsWrong : ChangeSpec := { name := "natTells", fn := fun _ => fun
  | [d1, d2, d3] => { results := [.lit (.bool false)], args := [d1, d2, d3] }
  | _ => none }
def NatTellsWrongFalsely : Prop := natTellsRow.holds Try.pinned (OpenSpec.ofChange natTellsWrong)

/-- 'steelyardlaw01.NatSums': WHATEVER THE INPUT: true; the input reads as it did. -/
def natSumsSpec : ChangeSpec := { name := "natSums", fn := fun _ => fun
  | [d1, d2, d3] => { results := [.lit (.bool true)], args := [d1, d2, d3] }
  | _ => none }
def natSumsRow : OpenClaim := { program := "ythcnnkajnmnloaa", sum := "f0bf039a859344609d33478b5a5a30621784eda277420e6662f6a608bb863aaa", func := "steelyard/steelyardlaw01.NatSums", spec := "natSums", apart := false }
def NatSumsSaid : Prop := natSumsRow.holds Try.pinned (OpenSpec.ofChange natSumsSpec)

/-- ITS FALSE NEIGHBOUR: 'it returns false'. Refute it at one input. -/
def natSumsWrong : ChangeSpec := { name := "natSums", fn := fun _ => fun
  | [d1, d2, d3] => { results := [.lit (.bool false)], args := [d1, d2, d3] }
  | _ => none }
def NatSumsWrongFalsely : Prop := natSumsRow.holds Try.pinned (OpenSpec.ofChange natSumsWrong)

/-- 'steelyardlaw01.NatOrder': WHATEVER THE INPUT: true; the input reads as it did. -/
def natOrderSpec : ChangeSpec := { name := "natOrder", fn := fun _ => fun
  | [d1, d2, d3] => { results := [.lit (.bool true)], args := [d1, d2, d3] }
  | _ => none }
def natOrderRow : OpenClaim := { program := "ythcnnkajnmnloaa", sum := "f0bf039a859344609d33478b5a5a30621784eda277420e6662f6a608bb863aaa", func := "steelyard/steelyardlaw01.NatOrder", spec := "natOrder", apart := false }
def NatOrderSaid : Prop := natOrderRow.holds Try.pinned (OpenSpec.ofChange natOrderSpec)

/-- ITS FALSE NEIGHBOUR: 'it returns false'. Refute it at one input. -/
def natOrderWrong : ChangeSpec := { name := "natOrder", fn := fun _ => fun
  | [d1, d2, d3] => { results := [.lit (.bool false)], args := [d1, d2, d3] }
  | _ => none }
def NatOrderWrongFalsely : Prop := natOrderRow.holds Try.pinned (OpenSpec.ofChange natOrderWrong)

/-- 'steelyardlaw01.NatBits': WHATEVER THE INPUT: true; the input reads as it did. -/
def natBitsSpec : ChangeSpec := { name := "natBits", fn := fun _ => fun
  | [d1, d2] => { results := [.lit (.bool true)], args := [d1, d2] }
  | _ => none }
def natBitsRow : OpenClaim := { program := "ythcnnkajnmnloaa", sum := "f0bf039a859344609d33478b5a5a30621784eda277420e6662f6a608bb863aaa", func := "steelyard/steelyardlaw01.NatBits", spec := "natBits", apart := false }
def NatBitsSaid : Prop := natBitsRow.holds Try.pinned (OpenSpec.ofChange natBitsSpec)

/-- ITS FALSE NEIGHBOUR: 'it returns false'. Refute it at one input. -/
def natBitsWrong : ChangeSpec := { name := "natBits", fn := fun _ => fun
  | [d1, d2] => { results := [.lit (.bool false)], args := [d1, d2] }
  | _ => none }
def NatBitsWrongFalsely : Prop := natBitsRow.holds Try.pinned (OpenSpec.ofChange natBitsWrong)

/-- 'steelyardlaw01.NatSubs': WHATEVER THE INPUT: true; the input reads as it did. -/
def natSubsSpec : ChangeSpec := { name := "natSubs", fn := fun _ => fun
  | [d1, d2, d3] => { results := [.lit (.bool true)], args := [d1, d2, d3] }
  | _ => none }
def natSubsRow : OpenClaim := { program := "ythcnnkajnmnloaa", sum := "f0bf039a859344609d33478b5a5a30621784eda277420e6662f6a608bb863aaa", func := "steelyard/steelyardlaw01.NatSubs", spec := "natSubs", apart := false }
def NatSubsSaid : Prop := natSubsRow.holds Try.pinned (OpenSpec.ofChange natSubsSpec)

/-- ITS FALSE NEIGHBOUR: 'it returns false'. Refute it at one input. -/
def natSubsWrong : ChangeSpec := { name := "natSubs", fn := fun _ => fun
  | [d1, d2, d3] => { results := [.lit (.bool false)], args := [d1, d2, d3] }
  | _ => none }
def NatSubsWrongFalsely : Prop := natSubsRow.holds Try.pinned (OpenSpec.ofChange natSubsWrong)

/-- 'steelyardlaw02.MulLaws': WHATEVER THE INPUT: true; the input reads as it did. -/
def mulLawsSpec : ChangeSpec := { name := "mulLaws", fn := fun _ => fun
  | [d1, d2, d3] => { results := [.lit (.bool true)], args := [d1, d2, d3] }
  | _ => none }
def mulLawsRow : OpenClaim := { program := "ythcnnkajnmnloaa", sum := "f0bf039a859344609d33478b5a5a30621784eda277420e6662f6a608bb863aaa", func := "steelyard/steelyardlaw02.MulLaws", spec := "mulLaws", apart := false }
def MulLawsSaid : Prop := mulLawsRow.holds Try.pinned (OpenSpec.ofChange mulLawsSpec)

/-- ITS FALSE NEIGHBOUR: 'it returns false'. Refute it at one input. -/
def mulLawsWrong : ChangeSpec := { name := "mulLaws", fn := fun _ => fun
  | [d1, d2, d3] => { results := [.lit (.bool false)], args := [d1, d2, d3] }
  | _ => none }
def MulLawsWrongFalsely : Prop := mulLawsRow.holds Try.pinned (OpenSpec.ofChange mulLawsWrong)

/- THE SECOND FORM. 'bulk': how many values and letters a reading holds, each counted each time it is reached (what is shared counts as often as it is met; a slice's spare places count too). A statement '..UptoSaid' is the law's where the arguments, and the package variables that the reading takes, are together of bulk at most 1048576: NARROWER than '..Said'. Prove '..Said' where nothing that the law and all that it calls make is longer than what came in: it says more and counts as full. Else prove '..UptoSaid'. A law counts once. -/
mutual
def uptoBulk {H : Type} : DataW H → Nat
  | .lit (.string bytes) => bytes.length + 1
  | .lit _ => 1
  | .nil => 1
  | .ptr d => uptoBulk d + 1
  | .slice elems spare => uptoBulkAll elems + uptoBulkAll spare + 1
  | .agg parts => uptoBulkAll parts + 1
  | .iface _ d => uptoBulk d + 1
  | .map entries => uptoBulkEntries entries + 1
  | .held _ => 1
def uptoBulkAll {H : Type} : List (DataW H) → Nat
  | [] => 0
  | d :: r => uptoBulk d + uptoBulkAll r
def uptoBulkEntries {H : Type} : List (Lit × DataW H) → Nat
  | [] => 0
  | x :: r => uptoBulkEntry x + uptoBulkEntries r
def uptoBulkEntry {H : Type} : Lit × DataW H → Nat
  | (.string bytes, d) => bytes.length + uptoBulk d + 1
  | (_, d) => uptoBulk d + 1
 end
def uptoSmall : (H : Type) → List (DataW H) → Bool := fun _ ds => decide (uptoBulkAll ds ≤ 1048576)
def OpenSpec.upto (s : _root_.Go.ChangeSpec) : _root_.Go.OpenSpec := { _root_.Go.OpenSpec.ofChange s with cond := some uptoSmall }

/-- 'steelyardlaw02.MulTells', WHERE WHAT IT READS IS OF BULK AT MOST 1048576: true; the input reads as it did. -/
def mulTellsUptoRow : OpenClaim := { program := "ythcnnkajnmnloaa", sum := "f0bf039a859344609d33478b5a5a30621784eda277420e6662f6a608bb863aaa", func := "steelyard/steelyardlaw02.MulTells", spec := "mulTells", apart := false, narrowed := true }
def MulTellsUptoSaid : Prop := mulTellsUptoRow.holds Try.pinned (OpenSpec.upto mulTellsSpec)

/-- 'steelyardlaw02.MulShifts', WHERE WHAT IT READS IS OF BULK AT MOST 1048576: true; the input reads as it did. -/
def mulShiftsUptoRow : OpenClaim := { program := "ythcnnkajnmnloaa", sum := "f0bf039a859344609d33478b5a5a30621784eda277420e6662f6a608bb863aaa", func := "steelyard/steelyardlaw02.MulShifts", spec := "mulShifts", apart := false, narrowed := true }
def MulShiftsUptoSaid : Prop := mulShiftsUptoRow.holds Try.pinned (OpenSpec.upto mulShiftsSpec)

/-- 'steelyardlaw02.MulBits', WHERE WHAT IT READS IS OF BULK AT MOST 1048576: true; the input reads as it did. -/
def mulBitsUptoRow : OpenClaim := { program := "ythcnnkajnmnloaa", sum := "f0bf039a859344609d33478b5a5a30621784eda277420e6662f6a608bb863aaa", func := "steelyard/steelyardlaw02.MulBits", spec := "mulBits", apart := false, narrowed := true }
def MulBitsUptoSaid : Prop := mulBitsUptoRow.holds Try.pinned (OpenSpec.upto mulBitsSpec)

/-- 'steelyardlaw01.NatTells', WHERE WHAT IT READS IS OF BULK AT MOST 1048576: true; the input reads as it did. -/
def natTellsUptoRow : OpenClaim := { program := "ythcnnkajnmnloaa", sum := "f0bf039a859344609d33478b5a5a30621784eda277420e6662f6a608bb863aaa", func := "steelyard/steelyardlaw01.NatTells", spec := "natTells", apart := false, narrowed := true }
def NatTellsUptoSaid : Prop := natTellsUptoRow.holds Try.pinned (OpenSpec.upto natTellsSpec)

/-- 'steelyardlaw01.NatSums', WHERE WHAT IT READS IS OF BULK AT MOST 1048576: true; the input reads as it did. -/
def natSumsUptoRow : OpenClaim := { program := "ythcnnkajnmnloaa", sum := "f0bf039a859344609d33478b5a5a30621784eda277420e6662f6a608bb863aaa", func := "steelyard/steelyardlaw01.NatSums", spec := "natSums", apart := false, narrowed := true }
def NatSumsUptoSaid : Prop := natSumsUptoRow.holds Try.pinned (OpenSpec.upto natSumsSpec)

/-- 'steelyardlaw01.NatOrder', WHERE WHAT IT READS IS OF BULK AT MOST 1048576: true; the input reads as it did. -/
def natOrderUptoRow : OpenClaim := { program := "ythcnnkajnmnloaa", sum := "f0bf039a859344609d33478b5a5a30621784eda277420e6662f6a608bb863aaa", func := "steelyard/steelyardlaw01.NatOrder", spec := "natOrder", apart := false, narrowed := true }
def NatOrderUptoSaid : Prop := natOrderUptoRow.holds Try.pinned (OpenSpec.upto natOrderSpec)

/-- 'steelyardlaw01.NatBits', WHERE WHAT IT READS IS OF BULK AT MOST 1048576: true; the input reads as it did. -/
def natBitsUptoRow : OpenClaim := { program := "ythcnnkajnmnloaa", sum := "f0bf039a859344609d33478b5a5a30621784eda277420e6662f6a608bb863aaa", func := "steelyard/steelyardlaw01.NatBits", spec := "natBits", apart := false, narrowed := true }
def NatBitsUptoSaid : Prop := natBitsUptoRow.holds Try.pinned (OpenSpec.upto natBitsSpec)

/-- 'steelyardlaw01.NatSubs', WHERE WHAT IT READS IS OF BULK AT MOST 1048576: true; the input reads as it did. -/
def natSubsUptoRow : OpenClaim := { program := "ythcnnkajnmnloaa", sum := "f0bf039a859344609d33478b5a5a30621784eda277420e6662f6a608bb863aaa", func := "steelyard/steelyardlaw01.NatSubs", spec := "natSubs", apart := false, narrowed := true }
def NatSubsUptoSaid : Prop := natSubsUptoRow.holds Try.pinned (OpenSpec.upto natSubsSpec)

/-- 'steelyardlaw02.MulLaws', WHERE WHAT IT READS IS OF BULK AT MOST 1048576: true; the input reads as it did. -/
def mulLawsUptoRow : OpenClaim := { program := "ythcnnkajnmnloaa", sum := "f0bf039a859344609d33478b5a5a30621784eda277420e6662f6a608bb863aaa", func := "steelyard/steelyardlaw02.MulLaws", spec := "mulLaws", apart := false, narrowed := true }
def MulLawsUptoSaid : Prop := mulLawsUptoRow.holds Try.pinned (OpenSpec.upto mulLawsSpec)

end Rows
end Go.Proofs.Ythcnnkajnmnloaa

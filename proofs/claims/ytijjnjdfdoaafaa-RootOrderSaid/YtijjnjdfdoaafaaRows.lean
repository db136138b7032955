/-
  No cell of these rows narrows 'for every input' (looked for: loops, veiled, ifaces, maps, wideKeys, modest, calm, conditions, laid).
  DERIVED. THE GIVEN ROWS OF THIS SEAT. 8 by the template 'for every input the law returns true; each argument reads behind the call as it read before'; 0 by the template 'total and deterministic' (their statements: YtijjnjdfdoaafaaTotals.lean).
  GIVEN WITH THE SEED: the statements are not yours to turn. If you find one false, say at which input.
  Laid BY PROGRAM, IN A SANDBOX (cutbox-rows.mjs): the forced cells as the released guide's own fill.sh prints them over the translation 51b83598f27966ec… (all of the seat's roots in one cut). By AI agents, Wed Nov 11 2026. No macro, syntax, notation, axiom, sorry.
-/
import Derived.Test.YtijjnjdfdoaafaaChecked
import GoSem.Claim
import GoSem.ClaimJoined
import GoSem.ClaimMapViews
import Derived.JoinedTies
import Derived.KernelRfl
namespace Go.Proofs.Ytijjnjdfdoaafaa
/- THE CELL 'sum', in the pinned program and in every row, IS THE sha256 OF THE DUMP (.gsa) THAT YtijjnjdfdoaafaaProg.lean LOADS. Nothing in Lean hashes anything: it is a label: what it is worth is what the hold of that sum in a sandbox is worth. -/
noncomputable def Try.pinned : Pinned := { name := "ytijjnjdfdoaafaa", sum := "51b83598f27966ec8d5226b8d19bb3016be4f9c8cd2387c39e12aee6977c04ac", checked := Try.checked }
namespace Rows
def none {H : Type} : Left H := { results := [], args := [] }

/-- 'steelyardlaw03.QuoTells': WHATEVER THE INPUT: true; the input reads as it did. -/
def quoTellsSpec : ChangeSpec := { name := "quoTells", fn := fun _ => fun
  | [d1, d2, d3] => { results := [.lit (.bool true)], args := [d1, d2, d3] }
  | _ => none }
def quoTellsRow : OpenClaim := { program := "ytijjnjdfdoaafaa", sum := "51b83598f27966ec8d5226b8d19bb3016be4f9c8cd2387c39e12aee6977c04ac", func := "steelyard/steelyardlaw03.QuoTells", spec := "quoTells", named := ["math/bits.overflowError"], apart := false }
def QuoTellsSaid : Prop := quoTellsRow.holds Try.pinned (OpenSpec.ofChange quoTellsSpec)

/-- ITS FALSE NEIGHBOUR: 'it returns false'. Refute it at one input. -/
def quoTellsWrong : ChangeSpec := { name := "quoTells", fn := fun _ => fun
  | [d1, d2, d3] => { results := [.lit (.bool false)], args := [d1, d2, d3] }
  | _ => none }
def QuoTellsWrongFalsely : Prop := quoTellsRow.holds Try.pinned (OpenSpec.ofChange quoTellsWrong)

/-- 'steelyardlaw03.QuoSmall': WHATEVER THE INPUT: true; the input reads as it did. -/
def quoSmallSpec : ChangeSpec := { name := "quoSmall", fn := fun _ => fun
  | [d1, d2, d3] => { results := [.lit (.bool true)], args := [d1, d2, d3] }
  | _ => none }
def quoSmallRow : OpenClaim := { program := "ytijjnjdfdoaafaa", sum := "51b83598f27966ec8d5226b8d19bb3016be4f9c8cd2387c39e12aee6977c04ac", func := "steelyard/steelyardlaw03.QuoSmall", spec := "quoSmall", named := ["math/bits.overflowError"], apart := false }
def QuoSmallSaid : Prop := quoSmallRow.holds Try.pinned (OpenSpec.ofChange quoSmallSpec)

/-- ITS FALSE NEIGHBOUR: 'it returns false'. Refute it at one input. -/
def quoSmallWrong : ChangeSpec := { name := "quoSmall", fn := fun _ => fun
  | [d1, d2, d3] => { results := [.lit (.bool false)], args := [d1, d2, d3] }
  | _ => none }
def QuoSmallWrongFalsely : Prop := quoSmallRow.holds Try.pinned (OpenSpec.ofChange quoSmallWrong)

/-- 'steelyardlaw03.QuoGcds': WHATEVER THE INPUT: true; the input reads as it did. -/
def quoGcdsSpec : ChangeSpec := { name := "quoGcds", fn := fun _ => fun
  | [d1, d2, d3] => { results := [.lit (.bool true)], args := [d1, d2, d3] }
  | _ => none }
def quoGcdsRow : OpenClaim := { program := "ytijjnjdfdoaafaa", sum := "51b83598f27966ec8d5226b8d19bb3016be4f9c8cd2387c39e12aee6977c04ac", func := "steelyard/steelyardlaw03.QuoGcds", spec := "quoGcds", named := ["math/bits.overflowError"], apart := false }
def QuoGcdsSaid : Prop := quoGcdsRow.holds Try.pinned (OpenSpec.ofChange quoGcdsSpec)

/-- ITS FALSE NEIGHBOUR: 'it returns false'. Refute it at one input. -/
def quoGcdsWrong : ChangeSpec := { name := "quoGcds", fn := fun _ => fun
  | [d1, d2, d3] => { results := [.lit (.bool false)], args := [d1, d2, d3] }
  | _ => none }
def QuoGcdsWrongFalsely : Prop := quoGcdsRow.holds Try.pinned (OpenSpec.ofChange quoGcdsWrong)

/-- 'steelyardlaw03.QuoTwice': WHATEVER THE INPUT: true; the input reads as it did. -/
def quoTwiceSpec : ChangeSpec := { name := "quoTwice", fn := fun _ => fun
  | [d1, d2, d3] => { results := [.lit (.bool true)], args := [d1, d2, d3] }
  | _ => none }
def quoTwiceRow : OpenClaim := { program := "ytijjnjdfdoaafaa", sum := "51b83598f27966ec8d5226b8d19bb3016be4f9c8cd2387c39e12aee6977c04ac", func := "steelyard/steelyardlaw03.QuoTwice", spec := "quoTwice", named := ["math/bits.overflowError"], apart := false }
def QuoTwiceSaid : Prop := quoTwiceRow.holds Try.pinned (OpenSpec.ofChange quoTwiceSpec)

/-- ITS FALSE NEIGHBOUR: 'it returns false'. Refute it at one input. -/
def quoTwiceWrong : ChangeSpec := { name := "quoTwice", fn := fun _ => fun
  | [d1, d2, d3] => { results := [.lit (.bool false)], args := [d1, d2, d3] }
  | _ => none }
def QuoTwiceWrongFalsely : Prop := quoTwiceRow.holds Try.pinned (OpenSpec.ofChange quoTwiceWrong)

/-- 'steelyardlaw03.QuoBack': WHATEVER THE INPUT: true; the input reads as it did. -/
def quoBackSpec : ChangeSpec := { name := "quoBack", fn := fun _ => fun
  | [d1, d2, d3] => { results := [.lit (.bool true)], args := [d1, d2, d3] }
  | _ => none }
def quoBackRow : OpenClaim := { program := "ytijjnjdfdoaafaa", sum := "51b83598f27966ec8d5226b8d19bb3016be4f9c8cd2387c39e12aee6977c04ac", func := "steelyard/steelyardlaw03.QuoBack", spec := "quoBack", named := ["math/bits.overflowError"], apart := false }
def QuoBackSaid : Prop := quoBackRow.holds Try.pinned (OpenSpec.ofChange quoBackSpec)

/-- ITS FALSE NEIGHBOUR: 'it returns false'. Refute it at one input. -/
def quoBackWrong : ChangeSpec := { name := "quoBack", fn := fun _ => fun
  | [d1, d2, d3] => { results := [.lit (.bool false)], args := [d1, d2, d3] }
  | _ => none }
def QuoBackWrongFalsely : Prop := quoBackRow.holds Try.pinned (OpenSpec.ofChange quoBackWrong)

/-- 'steelyardlaw04.RootTells': WHATEVER THE INPUT: true; the input reads as it did. -/
def rootTellsSpec : ChangeSpec := { name := "rootTells", fn := fun _ => fun
  | [d] => { results := [.lit (.bool true)], args := [d] }
  | _ => none }
def rootTellsRow : OpenClaim := { program := "ytijjnjdfdoaafaa", sum := "51b83598f27966ec8d5226b8d19bb3016be4f9c8cd2387c39e12aee6977c04ac", func := "steelyard/steelyardlaw04.RootTells", spec := "rootTells", apart := false }
def RootTellsSaid : Prop := rootTellsRow.holds Try.pinned (OpenSpec.ofChange rootTellsSpec)

/-- ITS FALSE NEIGHBOUR: 'it returns false'. Refute it at one input. -/
def rootTellsWrong : ChangeSpec := { name := "rootTells", fn := fun _ => fun
  | [d] => { results := [.lit (.bool false)], args := [d] }
  | _ => none }
def RootTellsWrongFalsely : Prop := rootTellsRow.holds Try.pinned (OpenSpec.ofChange rootTellsWrong)

/-- 'steelyardlaw04.RootSquares': WHATEVER THE INPUT: true; the input reads as it did. -/
def rootSquaresSpec : ChangeSpec := { name := "rootSquares", fn := fun _ => fun
  | [d] => { results := [.lit (.bool true)], args := [d] }
  | _ => none }
def rootSquaresRow : OpenClaim := { program := "ytijjnjdfdoaafaa", sum := "51b83598f27966ec8d5226b8d19bb3016be4f9c8cd2387c39e12aee6977c04ac", func := "steelyard/steelyardlaw04.RootSquares", spec := "rootSquares", apart := false }
def RootSquaresSaid : Prop := rootSquaresRow.holds Try.pinned (OpenSpec.ofChange rootSquaresSpec)

/-- ITS FALSE NEIGHBOUR: 'it returns false'. Refute it at one input. -/
def rootSquaresWrong : ChangeSpec := { name := "rootSquares", fn := fun _ => fun
  | [d] => { results := [.lit (.bool false)], args := [d] }
  | _ => none }
def RootSquaresWrongFalsely : Prop := rootSquaresRow.holds Try.pinned (OpenSpec.ofChange rootSquaresWrong)

/-- 'steelyardlaw04.RootOrder': WHATEVER THE INPUT: true; the input reads as it did. -/
def rootOrderSpec : ChangeSpec := { name := "rootOrder", fn := fun _ => fun
  | [d1, d2, d3] => { results := [.lit (.bool true)], args := [d1, d2, d3] }
  | _ => none }
def rootOrderRow : OpenClaim := { program := "ytijjnjdfdoaafaa", sum := "51b83598f27966ec8d5226b8d19bb3016be4f9c8cd2387c39e12aee6977c04ac", func := "steelyard/steelyardlaw04.RootOrder", spec := "rootOrder", apart := false }
def RootOrderSaid : Prop := rootOrderRow.holds Try.pinned (OpenSpec.ofChange rootOrderSpec)

/-- ITS FALSE NEIGHBOUR: 'it returns false'. Refute it at one input. -/
def rootOrderWrong : ChangeSpec := { name := "rootOrder", fn := fun _ => fun
  | [d1, d2, d3] => { results := [.lit (.bool false)], args := [d1, d2, d3] }
  | _ => none }
def RootOrderWrongFalsely : Prop := rootOrderRow.holds Try.pinned (OpenSpec.ofChange rootOrderWrong)

/- THE SECOND FORM. 'bulk': how many values and letters a reading holds, each counted each time it is reached (what is shared counts as often as it is met; a slice's spare places count too). A statement '..UptoSaid' is the law's where the arguments, and the package variables that the reading takes, are together of bulk at most 1048576: NARROWER than '..Said'. Prove '..Said' where nothing that the law and all that it calls make is longer than what came in: it says more and counts as full. Else prove '..UptoSaid'. A law counts once. -/
mutual
def uptoBulk {H : Type} : DataW H → Nat
  | .lit (.string bytes) => bytes.length + 1
  | .lit _ => 1
  | .nil => 1
  | .ptr d => uptoBulk d + 1
  | .slice elems spare => uptoBulkAll elems + uptoBulkAll spare + 1
  | .agg parts => uptoBulkAll parts + 1
  | .iface _ d => uptoBulk d + 1
  | .map entries => uptoBulkEntries entries + 1
  | .held _ => 1
def uptoBulkAll {H : Type} : List (DataW H) → Nat
  | [] => 0
  | d :: r => uptoBulk d + uptoBulkAll r
def uptoBulkEntries {H : Type} : List (Lit × DataW H) → Nat
  | [] => 0
  | x :: r => uptoBulkEntry x + uptoBulkEntries r
def uptoBulkEntry {H : Type} : Lit × DataW H → Nat
  | (.string bytes, d) => bytes.length + uptoBulk d + 1
  | (_, d) => uptoBulk d + 1
 end
def uptoSmall : (H : Type) → List (DataW H) → Bool := fun _ ds => decide (uptoBulkAll ds ≤ 1048576)
def OpenSpec.upto (s : _root_.Go.ChangeSpec) : _root_.Go.OpenSpec := { _root_.Go.OpenSpec.ofChange s with cond := some uptoSmall }

/-- 'steelyardlaw03.QuoTells', WHERE WHAT IT READS IS OF BULK AT MOST 1048576: true; the input reads as it did. -/
def quoTellsUptoRow : OpenClaim := { program := "ytijjnjdfdoaafaa", sum := "51b83598f27966ec8d5226b8d19bb3016be4f9c8cd2387c39e12aee6977c04ac", func := "steelyard/steelyardlaw03.QuoTells", spec := "quoTells", named := ["math/bits.overflowError"], apart := false, narrowed := true }
def QuoTellsUptoSaid : Prop := quoTellsUptoRow.holds Try.pinned (OpenSpec.upto quoTellsSpec)

/-- 'steelyardlaw03.QuoSmall', WHERE WHAT IT READS IS OF BULK AT MOST 1048576: true; the input reads as it did. -/
def quoSmallUptoRow : OpenClaim := { program := "ytijjnjdfdoaafaa", sum := "51b83598f27966ec8d5226b8d19bb3016be4f9c8cd2387c39e12aee6977c04ac", func := "steelyard/steelyardlaw03.QuoSmall", spec := "quoSmall", named := ["math/bits.overflowError"], apart := false, narrowed := true }
def QuoSmallUptoSaid : Prop := quoSmallUptoRow.holds Try.pinned (OpenSpec.upto quoSmallSpec)

/-- 'steelyardlaw03.QuoGcds', WHERE WHAT IT READS IS OF BULK AT MOST 1048576: true; the input reads as it did. -/
def quoGcdsUptoRow : OpenClaim := { program := "ytijjnjdfdoaafaa", sum := "51b83598f27966ec8d5226b8d19bb3016be4f9c8cd2387c39e12aee6977c04ac", func := "steelyard/steelyardlaw03.QuoGcds", spec := "quoGcds", named := ["math/bits.overflowError"], apart := false, narrowed := true }
def QuoGcdsUptoSaid : Prop := quoGcdsUptoRow.holds Try.pinned (OpenSpec.upto quoGcdsSpec)

/-- 'steelyardlaw03.QuoTwice', WHERE WHAT IT READS IS OF BULK AT MOST 1048576: true; the input reads as it did. -/
def quoTwiceUptoRow : OpenClaim := { program := "ytijjnjdfdoaafaa", sum := "51b83598f27966ec8d5226b8d19bb3016be4f9c8cd2387c39e12aee6977c04ac", func := "steelyard/steelyardlaw03.QuoTwice", spec := "quoTwice", named := ["math/bits.overflowError"], apart := false, narrowed := true }
def QuoTwiceUptoSaid : Prop := quoTwiceUptoRow.holds Try.pinned (OpenSpec.upto quoTwiceSpec)

/-- 'steelyardlaw03.QuoBack', WHERE WHAT IT READS IS OF BULK AT MOST 1048576: true; the input reads as it did. -/
def quoBackUptoRow : OpenClaim := { program := "ytijjnjdfdoaafaa", sum := "51b83598f27966ec8d5226b8d19bb3016be4f9c8cd2387c39e12aee6977c04ac", func := "steelyard/steelyardlaw03.QuoBack", spec := "quoBack", named := ["math/bits.overflowError"], apart := false, narrowed := true }
def QuoBackUptoSaid : Prop := quoBackUptoRow.holds Try.pinned (OpenSpec.upto quoBackSpec)

/-- 'steelyardlaw04.RootTells', WHERE WHAT IT READS IS OF BULK AT MOST 1048576: true; the input reads as it did. -/
def rootTellsUptoRow : OpenClaim := { program := "ytijjnjdfdoaafaa", sum := "51b83598f27966ec8d5226b8d19bb3016be4f9c8cd2387c39e12aee6977c04ac", func := "steelyard/steelyardlaw04.RootTells", spec := "rootTells", apart := false, narrowed := true }
def RootTellsUptoSaid : Prop := rootTellsUptoRow.holds Try.pinned (OpenSpec.upto rootTellsSpec)

/-- 'steelyardlaw04.RootSquares', WHERE WHAT IT READS IS OF BULK AT MOST 1048576: true; the input reads as it did. -/
def rootSquaresUptoRow : OpenClaim := { program := "ytijjnjdfdoaafaa", sum := "51b83598f27966ec8d5226b8d19bb3016be4f9c8cd2387c39e12aee6977c04ac", func := "steelyard/steelyardlaw04.RootSquares", spec := "rootSquares", apart := false, narrowed := true }
def RootSquaresUptoSaid : Prop := rootSquaresUptoRow.holds Try.pinned (OpenSpec.upto rootSquaresSpec)

/-- 'steelyardlaw04.RootOrder', WHERE WHAT IT READS IS OF BULK AT MOST 1048576: true; the input reads as it did. -/
def rootOrderUptoRow : OpenClaim := { program := "ytijjnjdfdoaafaa", sum := "51b83598f27966ec8d5226b8d19bb3016be4f9c8cd2387c39e12aee6977c04ac", func := "steelyard/steelyardlaw04.RootOrder", spec := "rootOrder", apart := false, narrowed := true }
def RootOrderUptoSaid : Prop := rootOrderUptoRow.holds Try.pinned (OpenSpec.upto rootOrderSpec)

end Rows
end Go.Proofs.Ytijjnjdfdoaafaa

-- The kit's words, printed by its print.sh; the theorems that this seat does not need are left out by a program of this session (wip/tool/shake.py). Lean checks it.
/- Words of this session's own on lists: what the builtin copy leaves. -/
import Derived.Test.YtjgmmaeafodpmaaGreatDoorWWords
import Derived.Test.YtjgmmaeafodpmaaGreatDoorWMore
import Derived.Test.YtjgmmaeafodpmaaGreatDoorWNEv
set_option linter.unusedVariables false
set_option linter.unusedSimpArgs false
namespace Go.Proofs.YtjgmmaeafodpmaaGreatDoorW.PrintWords
open Go.RowKit Go.Proofs.YtjgmmaeafodpmaaGreatDoorW.PrintMore

/-- xs with ys laid over it from place N on, as far as xs goes. -/
def cpy {α : Type} (xs : List α) (N : Nat) (ys : List α) : List α := xs.take N ++ (ys.take (xs.length - N) ++ xs.drop (N + ys.length))
theorem cpy_length {α : Type} (xs : List α) (N : Nat) (ys : List α) (h : N ≤ xs.length) : (cpy xs N ys).length = xs.length := by
  simp only [cpy, List.length_append, List.length_take, List.length_drop]; omega
/-- A text's bytes. -/
def btes (s : ByteArray) : List Int := s.data.toList.map fun b => (b.toNat : Int)
def tab0_ : List Int := [1, 10, 100, 1000, 10000, 100000, 1000000, 10000000, 100000000, 1000000000]
def tab1_ : List Bool := [false, false, false, false, false, false, false, false, false, false, false, false, false, false, false, false, false, false, false, false, false, false, false, false, false, false, false, false, false, false, false, false, false, false, false, false, false, false, false, false, false, false, false, false, false, false, false, false, true, true, true, true, true, true, true, true, true, true, false, false, false, false, false, false, false, false, false, false, false, false, false, false, false, false, false, false, false, false, false, false, false, false, false, false, false, false, false, false, false, false, false, false, false, false, false, false, false, false, false, false, false, false, false, false, false, false, false, false, false, false, false, false, false, false, false, false, false, false, false, false, false, false, false, false, false, false, false, false, false, false, false, false, false, false, false, false, false, false, false, false, false, false, false, false, false, false, false, false, false, false, false, false, false, false, false, false, false, false, false, false, false, false, false, false, false, false, false, false, false, false, false, false, false, false, false, false, false, false, false, false, false, false, false, false, false, false, false, false, false, false, false, false, false, false, false, false, false, false, false, false, false, false, false, false, false, false, false, false, false, false, false, false, false, false, false, false, false, false, false, false, false, false, false, false, false, false, false, false, false, false, false, false, false, false, false, false, false, false, false, false, false, false, false, false, false, false, false, false, false, false, false, false, false, false, false, false]
end Go.Proofs.YtjgmmaeafodpmaaGreatDoorW.PrintWords

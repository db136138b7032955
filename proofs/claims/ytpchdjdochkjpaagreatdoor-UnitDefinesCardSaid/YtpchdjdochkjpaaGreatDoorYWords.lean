-- The kit's words, printed by its print.sh; the theorems that this seat does not need are left out by a program of this session (wip/tool/shake.py). Lean checks it.
/- Words of this session's own on lists: what the builtin copy leaves. -/
import Derived.Test.YtpchdjdochkjpaaGreatDoorWWords
import Derived.Test.YtpchdjdochkjpaaGreatDoorWMore
import Derived.Test.YtpchdjdochkjpaaGreatDoorWNEv
set_option linter.unusedVariables false
set_option linter.unusedSimpArgs false
namespace Go.Proofs.YtpchdjdochkjpaaGreatDoorW.PrintWords
open Go.RowKit Go.Proofs.YtpchdjdochkjpaaGreatDoorW.PrintMore

/-- xs with ys laid over it from place N on, as far as xs goes. -/
def cpy {α : Type} (xs : List α) (N : Nat) (ys : List α) : List α := xs.take N ++ (ys.take (xs.length - N) ++ xs.drop (N + ys.length))
theorem cpy_length {α : Type} (xs : List α) (N : Nat) (ys : List α) (h : N ≤ xs.length) : (cpy xs N ys).length = xs.length := by
  simp only [cpy, List.length_append, List.length_take, List.length_drop]; omega
/-- A text's bytes. -/
def btes (s : ByteArray) : List Int := s.data.toList.map fun b => (b.toNat : Int)
end Go.Proofs.YtpchdjdochkjpaaGreatDoorW.PrintWords
namespace Go.Proofs.YtpchdjdochkjpaaGreatDoor.P
open Go.Proofs.YtpchdjdochkjpaaGreatDoorW.PrintWords Go.Proofs.YtpchdjdochkjpaaGreatDoorW.PrintMore
/-- A dimension. -/
structure Dm where
  d0 : Int
  d1 : Int
  d2 : Int
  d3 : Int
  d4 : Int
  d5 : Int
  d6 : Int
  deriving DecidableEq
/-- A unit. -/
structure Un where
  g : Bool
  m : List Int
  b : List Int
  d : Dm
/-- A reader of a unit's text: where it stands, what it has read, its fault. -/
structure Rd where
  i : Int
  u : Un
  e : Int
  p : Int
/-- A row of the program's table of units: its name, its number, its dimension, may a prefix stand ahead; a prefix. -/
structure Rw where
  n : ByteArray
  v : Int
  d : Dm
  q : Bool
structure Pf where
  n : ByteArray
  v : Int
def rwL : List Rw := [
  ⟨⟨#[109]⟩, 1, ⟨1, 0, 0, 0, 0, 0, 0⟩, true⟩,
  ⟨⟨#[115]⟩, 1, ⟨0, 0, 1, 0, 0, 0, 0⟩, true⟩,
  ⟨⟨#[65]⟩, 1, ⟨0, 0, 0, 1, 0, 0, 0⟩, true⟩,
  ⟨⟨#[75]⟩, 1, ⟨0, 0, 0, 0, 1, 0, 0⟩, true⟩,
  ⟨⟨#[109, 111, 108]⟩, 1, ⟨0, 0, 0, 0, 0, 1, 0⟩, true⟩,
  ⟨⟨#[99, 100]⟩, 1, ⟨0, 0, 0, 0, 0, 0, 1⟩, true⟩,
  ⟨⟨#[103]⟩, -1000, ⟨0, 1, 0, 0, 0, 0, 0⟩, true⟩,
  ⟨⟨#[72, 122]⟩, 1, ⟨0, 0, -1, 0, 0, 0, 0⟩, true⟩,
  ⟨⟨#[78]⟩, 1, ⟨1, 1, -2, 0, 0, 0, 0⟩, true⟩,
  ⟨⟨#[80, 97]⟩, 1, ⟨-1, 1, -2, 0, 0, 0, 0⟩, true⟩,
  ⟨⟨#[74]⟩, 1, ⟨2, 1, -2, 0, 0, 0, 0⟩, true⟩,
  ⟨⟨#[87]⟩, 1, ⟨2, 1, -3, 0, 0, 0, 0⟩, true⟩,
  ⟨⟨#[67]⟩, 1, ⟨0, 0, 1, 1, 0, 0, 0⟩, true⟩,
  ⟨⟨#[86]⟩, 1, ⟨2, 1, -3, -1, 0, 0, 0⟩, true⟩,
  ⟨⟨#[76]⟩, -1000, ⟨3, 0, 0, 0, 0, 0, 0⟩, true⟩,
  ⟨⟨#[109, 105, 110]⟩, 60, ⟨0, 0, 1, 0, 0, 0, 0⟩, false⟩,
  ⟨⟨#[104]⟩, 3600, ⟨0, 0, 1, 0, 0, 0, 0⟩, false⟩]
def pfL : List Pf := [⟨⟨#[107]⟩, 1000⟩, ⟨⟨#[77]⟩, 1000000⟩, ⟨⟨#[109]⟩, -1000⟩, ⟨⟨#[117]⟩, -1000000⟩, ⟨⟨#[99]⟩, -100⟩]
def rws (i : Int) : Option Rw := if 0 ≤ i then rwL[i.toNat]? else none
def pfs (i : Int) : Option Pf := if 0 ≤ i then pfL[i.toNat]? else none
/-- Units by their names. -/
abbrev Tab := List (ByteArray × Un)
def tget (n : ByteArray) : Tab → Option Un
  | [] => none
  | p :: l => if (n == p.1) = true then some p.2 else tget n l
def lkp {R : Type} (o : Option Un) (A : Un → Option R) (B : Option R) : Option R := match o with | some u => A u | none => B
/-- One more, of a name that is not there. -/
def mput {R : Type} (l : Tab) (n : ByteArray) (u : Un) (F : Tab → Option R) : Option R := match tget n l with | none => F (l ++ [(n, u)]) | some _ => none
theorem LeO.lkp {R : Type} {o : Option Un} {A A' : Un → Option R} {B B' : Option R} (h : ∀ u, LeO (A u) (A' u)) (k : LeO B B') : LeO (P.lkp o A B) (P.lkp o A' B') := by cases o; exact k; exact h _
theorem LeO.mput {R : Type} {l : Tab} {n : ByteArray} {u : Un} {F F' : Tab → Option R} (h : ∀ l, LeO (F l) (F' l)) : LeO (P.mput l n u F) (P.mput l n u F') := by unfold P.mput; split; exact h _; exact LeO.none _
def sortN (l : Tab) : List ByteArray := ((l.map fun p => p.1.data.toList).mergeSort fun x y => decide (x ≤ y)).map fun x => ⟨x.toArray⟩
end Go.Proofs.YtpchdjdochkjpaaGreatDoor.P

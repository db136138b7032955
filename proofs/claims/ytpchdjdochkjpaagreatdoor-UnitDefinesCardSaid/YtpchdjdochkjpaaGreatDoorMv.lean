/- The table of units, as the program fills it; a table goes through every call as it came. · The look whether package unit wakes: it does. -/
import Derived.Test.YtpchdjdochkjpaaGreatDoorMx
set_option linter.unusedVariables false
set_option linter.unusedSimpArgs false
namespace Go.Proofs.YtpchdjdochkjpaaGreatDoor.Lib
open Go.RowKit Go.Proofs.YtpchdjdochkjpaaGreatDoor.P Go.Proofs.YtpchdjdochkjpaaGreatDoorW.PrintWords Go.Proofs.YtpchdjdochkjpaaGreatDoorW.PrintMore
deriving instance DecidableEq for Un
def T92 : Tab := [
 (⟨#[109]⟩, ⟨false, [1], [1], ⟨1, 0, 0, 0, 0, 0, 0⟩⟩),
 (⟨#[115]⟩, ⟨false, [1], [1], ⟨0, 0, 1, 0, 0, 0, 0⟩⟩),
 (⟨#[65]⟩, ⟨false, [1], [1], ⟨0, 0, 0, 1, 0, 0, 0⟩⟩),
 (⟨#[75]⟩, ⟨false, [1], [1], ⟨0, 0, 0, 0, 1, 0, 0⟩⟩),
 (⟨#[109, 111, 108]⟩, ⟨false, [1], [1], ⟨0, 0, 0, 0, 0, 1, 0⟩⟩),
 (⟨#[99, 100]⟩, ⟨false, [1], [1], ⟨0, 0, 0, 0, 0, 0, 1⟩⟩),
 (⟨#[103]⟩, ⟨false, [1], [1000], ⟨0, 1, 0, 0, 0, 0, 0⟩⟩),
 (⟨#[72, 122]⟩, ⟨false, [1], [1], ⟨0, 0, -1, 0, 0, 0, 0⟩⟩),
 (⟨#[78]⟩, ⟨false, [1], [1], ⟨1, 1, -2, 0, 0, 0, 0⟩⟩),
 (⟨#[80, 97]⟩, ⟨false, [1], [1], ⟨-1, 1, -2, 0, 0, 0, 0⟩⟩),
 (⟨#[74]⟩, ⟨false, [1], [1], ⟨2, 1, -2, 0, 0, 0, 0⟩⟩),
 (⟨#[87]⟩, ⟨false, [1], [1], ⟨2, 1, -3, 0, 0, 0, 0⟩⟩),
 (⟨#[67]⟩, ⟨false, [1], [1], ⟨0, 0, 1, 1, 0, 0, 0⟩⟩),
 (⟨#[86]⟩, ⟨false, [1], [1], ⟨2, 1, -3, -1, 0, 0, 0⟩⟩),
 (⟨#[76]⟩, ⟨false, [1], [1000], ⟨3, 0, 0, 0, 0, 0, 0⟩⟩),
 (⟨#[109, 105, 110]⟩, ⟨false, [60], [1], ⟨0, 0, 1, 0, 0, 0, 0⟩⟩),
 (⟨#[104]⟩, ⟨false, [3600], [1], ⟨0, 0, 1, 0, 0, 0, 0⟩⟩),
 (⟨#[107, 109]⟩, ⟨false, [1000], [1], ⟨1, 0, 0, 0, 0, 0, 0⟩⟩),
 (⟨#[107, 115]⟩, ⟨false, [1000], [1], ⟨0, 0, 1, 0, 0, 0, 0⟩⟩),
 (⟨#[107, 65]⟩, ⟨false, [1000], [1], ⟨0, 0, 0, 1, 0, 0, 0⟩⟩),
 (⟨#[107, 75]⟩, ⟨false, [1000], [1], ⟨0, 0, 0, 0, 1, 0, 0⟩⟩),
 (⟨#[107, 109, 111, 108]⟩, ⟨false, [1000], [1], ⟨0, 0, 0, 0, 0, 1, 0⟩⟩),
 (⟨#[107, 99, 100]⟩, ⟨false, [1000], [1], ⟨0, 0, 0, 0, 0, 0, 1⟩⟩),
 (⟨#[107, 103]⟩, ⟨false, [1], [1], ⟨0, 1, 0, 0, 0, 0, 0⟩⟩),
 (⟨#[107, 72, 122]⟩, ⟨false, [1000], [1], ⟨0, 0, -1, 0, 0, 0, 0⟩⟩),
 (⟨#[107, 78]⟩, ⟨false, [1000], [1], ⟨1, 1, -2, 0, 0, 0, 0⟩⟩),
 (⟨#[107, 80, 97]⟩, ⟨false, [1000], [1], ⟨-1, 1, -2, 0, 0, 0, 0⟩⟩),
 (⟨#[107, 74]⟩, ⟨false, [1000], [1], ⟨2, 1, -2, 0, 0, 0, 0⟩⟩),
 (⟨#[107, 87]⟩, ⟨false, [1000], [1], ⟨2, 1, -3, 0, 0, 0, 0⟩⟩),
 (⟨#[107, 67]⟩, ⟨false, [1000], [1], ⟨0, 0, 1, 1, 0, 0, 0⟩⟩),
 (⟨#[107, 86]⟩, ⟨false, [1000], [1], ⟨2, 1, -3, -1, 0, 0, 0⟩⟩),
 (⟨#[107, 76]⟩, ⟨false, [1], [1], ⟨3, 0, 0, 0, 0, 0, 0⟩⟩),
 (⟨#[77, 109]⟩, ⟨false, [1000000], [1], ⟨1, 0, 0, 0, 0, 0, 0⟩⟩),
 (⟨#[77, 115]⟩, ⟨false, [1000000], [1], ⟨0, 0, 1, 0, 0, 0, 0⟩⟩),
 (⟨#[77, 65]⟩, ⟨false, [1000000], [1], ⟨0, 0, 0, 1, 0, 0, 0⟩⟩),
 (⟨#[77, 75]⟩, ⟨false, [1000000], [1], ⟨0, 0, 0, 0, 1, 0, 0⟩⟩),
 (⟨#[77, 109, 111, 108]⟩, ⟨false, [1000000], [1], ⟨0, 0, 0, 0, 0, 1, 0⟩⟩),
 (⟨#[77, 99, 100]⟩, ⟨false, [1000000], [1], ⟨0, 0, 0, 0, 0, 0, 1⟩⟩),
 (⟨#[77, 103]⟩, ⟨false, [1000], [1], ⟨0, 1, 0, 0, 0, 0, 0⟩⟩),
 (⟨#[77, 72, 122]⟩, ⟨false, [1000000], [1], ⟨0, 0, -1, 0, 0, 0, 0⟩⟩),
 (⟨#[77, 78]⟩, ⟨false, [1000000], [1], ⟨1, 1, -2, 0, 0, 0, 0⟩⟩),
 (⟨#[77, 80, 97]⟩, ⟨false, [1000000], [1], ⟨-1, 1, -2, 0, 0, 0, 0⟩⟩),
 (⟨#[77, 74]⟩, ⟨false, [1000000], [1], ⟨2, 1, -2, 0, 0, 0, 0⟩⟩),
 (⟨#[77, 87]⟩, ⟨false, [1000000], [1], ⟨2, 1, -3, 0, 0, 0, 0⟩⟩),
 (⟨#[77, 67]⟩, ⟨false, [1000000], [1], ⟨0, 0, 1, 1, 0, 0, 0⟩⟩),
 (⟨#[77, 86]⟩, ⟨false, [1000000], [1], ⟨2, 1, -3, -1, 0, 0, 0⟩⟩),
 (⟨#[77, 76]⟩, ⟨false, [1000], [1], ⟨3, 0, 0, 0, 0, 0, 0⟩⟩),
 (⟨#[109, 109]⟩, ⟨false, [1], [1000], ⟨1, 0, 0, 0, 0, 0, 0⟩⟩),
 (⟨#[109, 115]⟩, ⟨false, [1], [1000], ⟨0, 0, 1, 0, 0, 0, 0⟩⟩),
 (⟨#[109, 65]⟩, ⟨false, [1], [1000], ⟨0, 0, 0, 1, 0, 0, 0⟩⟩),
 (⟨#[109, 75]⟩, ⟨false, [1], [1000], ⟨0, 0, 0, 0, 1, 0, 0⟩⟩),
 (⟨#[109, 109, 111, 108]⟩, ⟨false, [1], [1000], ⟨0, 0, 0, 0, 0, 1, 0⟩⟩),
 (⟨#[109, 99, 100]⟩, ⟨false, [1], [1000], ⟨0, 0, 0, 0, 0, 0, 1⟩⟩),
 (⟨#[109, 103]⟩, ⟨false, [1], [1000000], ⟨0, 1, 0, 0, 0, 0, 0⟩⟩),
 (⟨#[109, 72, 122]⟩, ⟨false, [1], [1000], ⟨0, 0, -1, 0, 0, 0, 0⟩⟩),
 (⟨#[109, 78]⟩, ⟨false, [1], [1000], ⟨1, 1, -2, 0, 0, 0, 0⟩⟩),
 (⟨#[109, 80, 97]⟩, ⟨false, [1], [1000], ⟨-1, 1, -2, 0, 0, 0, 0⟩⟩),
 (⟨#[109, 74]⟩, ⟨false, [1], [1000], ⟨2, 1, -2, 0, 0, 0, 0⟩⟩),
 (⟨#[109, 87]⟩, ⟨false, [1], [1000], ⟨2, 1, -3, 0, 0, 0, 0⟩⟩),
 (⟨#[109, 67]⟩, ⟨false, [1], [1000], ⟨0, 0, 1, 1, 0, 0, 0⟩⟩),
 (⟨#[109, 86]⟩, ⟨false, [1], [1000], ⟨2, 1, -3, -1, 0, 0, 0⟩⟩),
 (⟨#[109, 76]⟩, ⟨false, [1], [1000000], ⟨3, 0, 0, 0, 0, 0, 0⟩⟩),
 (⟨#[117, 109]⟩, ⟨false, [1], [1000000], ⟨1, 0, 0, 0, 0, 0, 0⟩⟩),
 (⟨#[117, 115]⟩, ⟨false, [1], [1000000], ⟨0, 0, 1, 0, 0, 0, 0⟩⟩),
 (⟨#[117, 65]⟩, ⟨false, [1], [1000000], ⟨0, 0, 0, 1, 0, 0, 0⟩⟩),
 (⟨#[117, 75]⟩, ⟨false, [1], [1000000], ⟨0, 0, 0, 0, 1, 0, 0⟩⟩),
 (⟨#[117, 109, 111, 108]⟩, ⟨false, [1], [1000000], ⟨0, 0, 0, 0, 0, 1, 0⟩⟩),
 (⟨#[117, 99, 100]⟩, ⟨false, [1], [1000000], ⟨0, 0, 0, 0, 0, 0, 1⟩⟩),
 (⟨#[117, 103]⟩, ⟨false, [1], [1000000000], ⟨0, 1, 0, 0, 0, 0, 0⟩⟩),
 (⟨#[117, 72, 122]⟩, ⟨false, [1], [1000000], ⟨0, 0, -1, 0, 0, 0, 0⟩⟩),
 (⟨#[117, 78]⟩, ⟨false, [1], [1000000], ⟨1, 1, -2, 0, 0, 0, 0⟩⟩),
 (⟨#[117, 80, 97]⟩, ⟨false, [1], [1000000], ⟨-1, 1, -2, 0, 0, 0, 0⟩⟩),
 (⟨#[117, 74]⟩, ⟨false, [1], [1000000], ⟨2, 1, -2, 0, 0, 0, 0⟩⟩),
 (⟨#[117, 87]⟩, ⟨false, [1], [1000000], ⟨2, 1, -3, 0, 0, 0, 0⟩⟩),
 (⟨#[117, 67]⟩, ⟨false, [1], [1000000], ⟨0, 0, 1, 1, 0, 0, 0⟩⟩),
 (⟨#[117, 86]⟩, ⟨false, [1], [1000000], ⟨2, 1, -3, -1, 0, 0, 0⟩⟩),
 (⟨#[117, 76]⟩, ⟨false, [1], [1000000000], ⟨3, 0, 0, 0, 0, 0, 0⟩⟩),
 (⟨#[99, 109]⟩, ⟨false, [1], [100], ⟨1, 0, 0, 0, 0, 0, 0⟩⟩),
 (⟨#[99, 115]⟩, ⟨false, [1], [100], ⟨0, 0, 1, 0, 0, 0, 0⟩⟩),
 (⟨#[99, 65]⟩, ⟨false, [1], [100], ⟨0, 0, 0, 1, 0, 0, 0⟩⟩),
 (⟨#[99, 75]⟩, ⟨false, [1], [100], ⟨0, 0, 0, 0, 1, 0, 0⟩⟩),
 (⟨#[99, 109, 111, 108]⟩, ⟨false, [1], [100], ⟨0, 0, 0, 0, 0, 1, 0⟩⟩),
 (⟨#[99, 99, 100]⟩, ⟨false, [1], [100], ⟨0, 0, 0, 0, 0, 0, 1⟩⟩),
 (⟨#[99, 103]⟩, ⟨false, [1], [100000], ⟨0, 1, 0, 0, 0, 0, 0⟩⟩),
 (⟨#[99, 72, 122]⟩, ⟨false, [1], [100], ⟨0, 0, -1, 0, 0, 0, 0⟩⟩),
 (⟨#[99, 78]⟩, ⟨false, [1], [100], ⟨1, 1, -2, 0, 0, 0, 0⟩⟩),
 (⟨#[99, 80, 97]⟩, ⟨false, [1], [100], ⟨-1, 1, -2, 0, 0, 0, 0⟩⟩),
 (⟨#[99, 74]⟩, ⟨false, [1], [100], ⟨2, 1, -2, 0, 0, 0, 0⟩⟩),
 (⟨#[99, 87]⟩, ⟨false, [1], [100], ⟨2, 1, -3, 0, 0, 0, 0⟩⟩),
 (⟨#[99, 67]⟩, ⟨false, [1], [100], ⟨0, 0, 1, 1, 0, 0, 0⟩⟩),
 (⟨#[99, 86]⟩, ⟨false, [1], [100], ⟨2, 1, -3, -1, 0, 0, 0⟩⟩),
 (⟨#[99, 76]⟩, ⟨false, [1], [100000], ⟨3, 0, 0, 0, 0, 0, 0⟩⟩)]
def SN92 : List ByteArray := [
 ⟨#[65]⟩, ⟨#[67]⟩, ⟨#[72, 122]⟩, ⟨#[74]⟩, ⟨#[75]⟩, ⟨#[76]⟩, ⟨#[77, 65]⟩, ⟨#[77, 67]⟩, ⟨#[77, 72, 122]⟩, ⟨#[77, 74]⟩, ⟨#[77, 75]⟩, ⟨#[77, 76]⟩, ⟨#[77, 78]⟩, ⟨#[77, 80, 97]⟩, ⟨#[77, 86]⟩, ⟨#[77, 87]⟩, ⟨#[77, 99, 100]⟩, ⟨#[77, 103]⟩, ⟨#[77, 109]⟩, ⟨#[77, 109, 111, 108]⟩, ⟨#[77, 115]⟩, ⟨#[78]⟩, ⟨#[80, 97]⟩, ⟨#[86]⟩, ⟨#[87]⟩, ⟨#[99, 65]⟩, ⟨#[99, 67]⟩, ⟨#[99, 72, 122]⟩, ⟨#[99, 74]⟩, ⟨#[99, 75]⟩, ⟨#[99, 76]⟩, ⟨#[99, 78]⟩, ⟨#[99, 80, 97]⟩, ⟨#[99, 86]⟩, ⟨#[99, 87]⟩, ⟨#[99, 99, 100]⟩, ⟨#[99, 100]⟩, ⟨#[99, 103]⟩, ⟨#[99, 109]⟩, ⟨#[99, 109, 111, 108]⟩, ⟨#[99, 115]⟩, ⟨#[103]⟩, ⟨#[104]⟩, ⟨#[107, 65]⟩, ⟨#[107, 67]⟩, ⟨#[107, 72, 122]⟩, ⟨#[107, 74]⟩, ⟨#[107, 75]⟩, ⟨#[107, 76]⟩, ⟨#[107, 78]⟩, ⟨#[107, 80, 97]⟩, ⟨#[107, 86]⟩, ⟨#[107, 87]⟩, ⟨#[107, 99, 100]⟩, ⟨#[107, 103]⟩, ⟨#[107, 109]⟩, ⟨#[107, 109, 111, 108]⟩, ⟨#[107, 115]⟩, ⟨#[109]⟩, ⟨#[109, 65]⟩, ⟨#[109, 67]⟩, ⟨#[109, 72, 122]⟩, ⟨#[109, 74]⟩, ⟨#[109, 75]⟩, ⟨#[109, 76]⟩, ⟨#[109, 78]⟩, ⟨#[109, 80, 97]⟩, ⟨#[109, 86]⟩, ⟨#[109, 87]⟩, ⟨#[109, 99, 100]⟩, ⟨#[109, 103]⟩, ⟨#[109, 105, 110]⟩, ⟨#[109, 109]⟩, ⟨#[109, 109, 111, 108]⟩, ⟨#[109, 111, 108]⟩, ⟨#[109, 115]⟩, ⟨#[115]⟩, ⟨#[117, 65]⟩, ⟨#[117, 67]⟩, ⟨#[117, 72, 122]⟩, ⟨#[117, 74]⟩, ⟨#[117, 75]⟩, ⟨#[117, 76]⟩, ⟨#[117, 78]⟩, ⟨#[117, 80, 97]⟩, ⟨#[117, 86]⟩, ⟨#[117, 87]⟩, ⟨#[117, 99, 100]⟩, ⟨#[117, 103]⟩, ⟨#[117, 109]⟩, ⟨#[117, 109, 111, 108]⟩, ⟨#[117, 115]⟩]
set_option maxRecDepth 100000 in
theorem fill_eq : unit_Table_fill.f 200 = some T92 := by decide +kernel
theorem all_new {k : Nat} (hk : 200 ≤ k) : unit_Table_all.f k none = some T92 := at_rounds unit_Table_fill.mono hk fill_eq
theorem all_old {k : Nat} {l : Tab} : unit_Table_all.f k (some l) = some l := rfl
theorem bind_some {α β : Type} {a : Option α} {f : α → Option β} {r : β} (h : a.bind f = some r) : ∃ x, a = some x ∧ f x = some r := Option.bind_eq_some_iff.1 h
theorem Of_tab {k : Nat} {l : Tab} {n : ByteArray} {r : Tab × Un × Bool} (h : unit_Table_Of.f k (some l) n = some r) : r.1 = l := by
 unfold unit_Table_Of.f at h
 rw [all_old] at h
 simp only [Option.bind_some] at h
 unfold lkp at h
 split at h
 ·obtain ⟨t, _, h⟩ := bind_some h
  cases h; rfl
 ·cases h; rfl
theorem Has_tab {k : Nat} {l : Tab} {n : ByteArray} {r : Tab × Bool} (h : unit_Table_Has.f k (some l) n = some r) : r.1 = l := by
 unfold unit_Table_Has.f at h
 obtain ⟨t, ht, h⟩ := bind_some h
 cases h
 exact Of_tab ht
theorem p_tab {k : Nat} {l : Tab} {o : Bool} {a : Int} {y : Rd} {u : Un × Bool} {r : Tab × Rd} (h : unit_reader_piece.p k l o a y u = some r) : r.1 = l := by
 unfold unit_reader_piece.p at h
 repeat' first
  | (cases h; rfl)
  | split at h
  | (obtain ⟨_, _, h⟩ := bind_some h)
theorem r_tab {k : Nat} {l : Tab} {s : ByteArray} {o : Bool} {a : Int} {y : Rd} {r : Tab × Rd} (h : unit_reader_piece.r k l s o a y = some r) : r.1 = l := by
 unfold unit_reader_piece.r at h
 split at h
 ·split at h
  ·obtain ⟨t, ht, h⟩ := bind_some h
   have e := Of_tab ht
   split at h
   ·obtain ⟨_, _, h⟩ := bind_some h
    obtain ⟨_, _, h⟩ := bind_some h
    rw [← e]; exact p_tab h
   ·obtain ⟨_, _, h⟩ := bind_some h
    cases h; exact e
  ·cases h
 ·cases h
theorem piece_tab {k : Nat} {l : Tab} {s : ByteArray} {x : Rd} {o : Bool} {r : Tab × Rd} (h : unit_reader_piece.f k l s x o = some r) : r.1 = l := by
 unfold unit_reader_piece.f at h
 obtain ⟨y, _, h⟩ := bind_some h
 by_cases c1 : 0 ≤ y.i
 ·rw [if_pos c1] at h
  by_cases c2 : y.i ≤ (s.size : Int)
  ·rw [if_pos c2] at h
   obtain ⟨t, _, h⟩ := bind_some h
   by_cases c3 : t = true
   ·rw [if_pos c3] at h; obtain rfl := Option.some.inj h; rfl
   ·rw [if_neg c3] at h
    obtain ⟨n, _, h⟩ := bind_some h
    by_cases c4 : n = 0
    ·rw [if_pos c4] at h
     obtain ⟨q, _, h⟩ := bind_some h
     obtain rfl := Option.some.inj h; rfl
    ·rw [if_neg c4] at h
     by_cases c5 : wrap64 (y.i + n) < (s.size : Int)
     ·rw [if_pos c5] at h
      by_cases c6 : 0 ≤ wrap64 (y.i + n)
      ·rw [if_pos c6] at h
       by_cases c7 : wrap64 (y.i + n) ≤ wrap64 (wrap64 (y.i + n) + 1)
       ·rw [if_pos c7] at h
        by_cases c8 : wrap64 (wrap64 (y.i + n) + 1) ≤ (s.size : Int)
        ·rw [if_pos c8] at h
         by_cases c9 : 1 + (s.extract (wrap64 (y.i + n)).toNat (wrap64 (wrap64 (y.i + n) + 1)).toNat).size ≤ 9223372036854775807
         ·rw [if_pos c9] at h
          obtain ⟨m, _, h⟩ := bind_some h
          by_cases c10 : m = 2
          ·rw [if_pos c10] at h
           obtain ⟨q, _, h⟩ := bind_some h
           obtain rfl := Option.some.inj h; rfl
          ·rw [if_neg c10] at h; exact r_tab h
         ·rw [if_neg c9] at h; cases h
        ·rw [if_neg c8] at h; cases h
       ·rw [if_neg c7] at h; cases h
      ·rw [if_neg c6] at h; cases h
     ·rw [if_neg c5] at h; exact r_tab h
  ·rw [if_neg c2] at h; cases h
 ·rw [if_neg c1] at h; cases h
theorem d_tab {l : Tab} {y : Rd} {r : Tab × Un × Int × Int} (h : unit_Table_Parse.d l y = some r) : r.1 = l := by
 unfold unit_Table_Parse.d at h
 split at h <;> cases h <;> rfl
theorem e_tab {k : Nat} {l : Tab} {s : ByteArray} {y : Rd} {r : Tab × Un × Int × Int} (h : unit_Table_Parse.e k l s y = some r) : r.1 = l := by
 unfold unit_Table_Parse.e at h
 obtain ⟨z, _, h⟩ := bind_some h
 split at h
 ·obtain ⟨_, _, h⟩ := bind_some h
  exact d_tab h
 ·exact d_tab h
theorem l0_tab {s : ByteArray} : ∀ {k : Nat} {l : Tab} {y : Rd} {r : Tab × Un × Int × Int}, unit_Table_Parse.l0 k s l y = some r → r.1 = l
 | 0, l, y, r, h => by simp [unit_Table_Parse.l0] at h
 | k + 1, l, y, r, h => by
  unfold unit_Table_Parse.l0 at h
  split at h
  ·obtain ⟨z, _, h⟩ := bind_some h
   split at h
   ·exact e_tab h
   ·obtain ⟨q, hq, h⟩ := bind_some h
    exact (l0_tab h).trans (piece_tab hq)
  ·exact e_tab h
theorem Parse_tab {k : Nat} {l : Tab} {s : ByteArray} {r : Tab × Un × Int × Int} (h : unit_Table_Parse.f k (some l) s = some r) : r.1 = l := by
 unfold unit_Table_Parse.f at h
 rw [all_old] at h
 simp only [Option.bind_some] at h
 split at h
 ·cases h; rfl
 ·obtain ⟨a, _, h⟩ := bind_some h
  obtain ⟨q, hq, h⟩ := bind_some h
  exact (l0_tab h).trans (piece_tab hq)
end Go.Proofs.YtpchdjdochkjpaaGreatDoor.Lib
set_option linter.unusedVariables false
set_option linter.unusedSimpArgs false
namespace Go.Proofs.YtpchdjdochkjpaaGreatDoor.Lib
open Go.RowKit Go.Proofs.YtpchdjdochkjpaaGreatDoor.P Go.Proofs.YtpchdjdochkjpaaGreatDoorW.PrintWords Go.Proofs.YtpchdjdochkjpaaGreatDoorW.PrintMore
def T93 : Tab := T92 ++ [(⟨#[102, 111, 111, 116]⟩, ⟨false, [381], [1250], ⟨1, 0, 0, 0, 0, 0, 0⟩⟩)]
theorem names_ok {k : Nat} {l : Tab} (h1 : decide (l.length * 16 ≤ 140737488355328) = true) (h2 : (l.all fun p => decide (p.1.size ≤ 9223372036854775807)) = true) : unit_Table_Names.f k (some l) = some (l, sortN l) := by
 unfold unit_Table_Names.f
 rw [all_old, Option.bind_some, h1, h2]
 rfl
theorem sortN_length (l : Tab) : (sortN l).length = l.length := by simp [sortN]
set_option maxRecDepth 100000 in
theorem wk1 : unit_Table_Parse.f 200 (some T92) ⟨#[107, 103, 42, 109, 47, 115, 94, 50]⟩ = some (T92, ⟨false, [1], [1], ⟨1, 1, -2, 0, 0, 0, 0⟩⟩, 0, 0) := by decide +kernel
set_option maxRecDepth 100000 in
theorem wk2 : unit_Table_Parse.f 200 (some T92) ⟨#[107, 103, 32, 109, 47, 115, 94, 50]⟩ = some (T92, ⟨false, [], [], ⟨0, 0, 0, 0, 0, 0, 0⟩⟩, 12, 3) := by decide +kernel
set_option maxRecDepth 100000 in
theorem wk3 : unit_Table_Parse.f 200 (some T92) ⟨#[109, 42, 120, 120]⟩ = some (T92, ⟨false, [], [], ⟨0, 0, 0, 0, 0, 0, 0⟩⟩, 15, 2) := by decide +kernel
set_option maxRecDepth 100000 in
theorem wk4 : unit_Table_Parse.f 200 (some T92) ⟨#[32, 109, 76, 32, 47, 32, 109, 105, 110, 32, 94, 32, 45, 50, 32]⟩ = some (T92, ⟨false, [9], [2500], ⟨3, 0, 2, 0, 0, 0, 0⟩⟩, 0, 0) := by decide +kernel
set_option maxRecDepth 100000 in
theorem wk5 : unit_Table_Define.f 200 (some T92) ⟨#[102, 111, 111, 116]⟩ ⟨false, [381], [1250], ⟨1, 0, 0, 0, 0, 0, 0⟩⟩ = some (T93, 0) := by decide +kernel
set_option maxRecDepth 100000 in
theorem wk6 : unit_Table_Define.f 200 (some T93) ⟨#[109]⟩ ⟨false, [2], [1], ⟨0, 0, 0, 0, 0, 0, 0⟩⟩ = some (T93, 14) := by decide +kernel
set_option maxRecDepth 100000 in
theorem wk7 : unit_Table_Of.f 200 (some T93) ⟨#[102, 111, 111, 116]⟩ = some (T93, ⟨false, [381], [1250], ⟨1, 0, 0, 0, 0, 0, 0⟩⟩, true) := by decide +kernel
set_option maxRecDepth 100000 in
theorem wk8 : unit_Table_Has.f 200 (some T93) ⟨#[117, 99, 100]⟩ = some (T93, true) := by decide +kernel
set_option maxRecDepth 100000 in
theorem wk9 : unit_Table_Has.f 200 (some T93) ⟨#[107, 109, 105, 110]⟩ = some (T93, false) := by decide +kernel
theorem up {α : Type} {g : Nat → Option α} (h : ∀ k, LeO (g k) (g (k + 1))) {r : α} {k : Nat} (hk : 200 ≤ k) (e : g 200 = some r) : g k = some r := at_rounds h hk e
theorem Parse_new {k : Nat} (hk : 200 ≤ k) (s : ByteArray) : unit_Table_Parse.f k none s = unit_Table_Parse.f k (some T92) s := by
 unfold unit_Table_Parse.f
 rw [all_new hk, all_old]
theorem wakes : steelyardlaw12_wakes.f 200 = some true := by
 unfold steelyardlaw12_wakes.f
 rw [Parse_new (Nat.le_refl _), wk1, Option.bind_some]
 simp only [wk2, wk3, wk4, Option.bind_some]
 rw [show steelyardlaw07_By.f 200 381 1250 = some (false, [381], [1250]) by decide +kernel, Option.bind_some]
 simp only [wk5, Option.bind_some]
 rw [show rat_Whole.f 200 2 = some (false, [2], [1]) by decide +kernel, Option.bind_some]
 simp only [wk6, wk7, Option.bind_some]
 rw [show unit_Table_Parse_nil.f ⟨#[109]⟩ = some (⟨false, [], [], ⟨0, 0, 0, 0, 0, 0, 0⟩⟩, 1, 0) by decide +kernel, Option.bind_some]
 simp only [if_true]
 rw [show rat_Whole.f 200 1 = some (false, [1], [1]) by decide +kernel, Option.bind_some]
 rw [show steelyardkeep_Unit.f 200 ⟨false, [1], [1], ⟨1, 1, -2, 0, 0, 0, 0⟩⟩ ⟨false, [1], [1], ⟨1, 1, -2, 0, 0, 0, 0⟩⟩ = some true by decide +kernel, Option.bind_some]
 rw [show steelyardlaw07_By.f 200 3600 1000000 = some (false, [9], [2500]) by decide +kernel]
 simp only [Option.bind_some]
 rw [show steelyardkeep_Rat.f 200 false [9] [2500] false [9] [2500] = some true by decide +kernel]
 simp only [Option.bind_some]
 rw [names_ok (by decide +kernel) (by decide +kernel)]
 simp only [Option.bind_some, sortN_length, wk8, wk9]
 rw [show unit_Table_Define_nil.f ⟨#[109]⟩ ⟨false, [381], [1250], ⟨1, 0, 0, 0, 0, 0, 0⟩⟩ = some 1 by decide +kernel]
 rw [show ((T93.length : Nat) : Int) = 93 by decide +kernel]
 decide
end Go.Proofs.YtpchdjdochkjpaaGreatDoor.Lib

/- Contracts of Go's library as contracts here: a call that writes nothing of what there was. · What the program's types say, as the walks ask it. · Tables: what lies behind a pointer to a table of units; what operations on it do. · A region with a draw: a load and a call that writes another row, in either order. · Tables: the rules as a walk takes them. · sync.Once around a table's filling: the parts, each a contract. · A table's 'all': the filling once. · slices.Sorted(maps.Keys(m)) at this dump, in plain words. · A table's names: what slices.Sorted(maps.Keys(..)) gives. · Lists of texts and the like that are only read; literals of a call's own: the rules as a walk takes them. · From a function's contract to a call in any memory: the law's own call. · What a row gives beside its arguments: tables of bools, the library's own variable of some number. · Tables of structs that a row lists: what they hold, cell for cell. -/
import Derived.Test.YtpchdjdochkjpaaGreatDoorMb
import Derived.Below
import Derived.Deep.Draws
import Derived.Test.YtpchdjdochkjpaaGreatDoorProg
import Derived.MapKept
import Derived.Tactics
import Derived.Tactics2
import Derived.Defers
import Derived.Laws.Pointers
import Derived.Laws.LoneSync
import Derived.RegionTactic
import Derived.RegionCalls
import Derived.ChangeAlike
import Derived.KernelRfl
import Derived.Shelf.SlIter.Nil
import Derived.Shelf.SortM.Plain
import Derived.Shelf.SortM.SortNone
import Derived.Ground.GgzProg
import Derived.Ground.SlgmProg
import Derived.Test.YtpchdjdochkjpaaGreatDoorWMore
import Derived.HandedShaped
import Derived.Lib.LaidTab
set_option linter.unusedVariables false
set_option linter.unusedSimpArgs false
namespace Go.Proofs.YtpchdjdochkjpaaGreatDoor.Am
open Go Go.RowKit
theorem Gl.int {G : Nat → AV} {w : World} {fz : Nat → Prop} {g : Nat} {k : IntKind} {n : Int} (h : Gl G w fz) (e : G g = .fptr (.int k n)) : w.cell? ⟨g, 0, none⟩ = some (.int k n) := by
  have := h g (by rw [e]; simp)
  rw [e] at this
  cases this with
  | fptr x u a hu hc hsp hf =>
    cases hu
    exact hc 0 _ rfl
theorem holds_below {P : Program} {G : Nat → AV} {f : Nat} {args : List AV} {res : AV} (hcall : callable P f = true)
    (h : ∀ (w : World) (fz : Nat → Prop) (β : Nat → Option Own) (vs : List Value), Gl G w fz → Pw w fz β (lens []) args vs →
      ∃ v, Calls P f vs.toArray w (fun e w' => e = .returned v ∧ Below w.heap.size w w') ∧ ∀ (w' : World) (fz' : Nat → Prop), V w' fz' (fun _ => none) (lens []) res v) : Holds P G f [] args res [] := by
  refine ⟨hcall, fun w fz β vs hG hfz _ _ _ hP => ?_⟩
  obtain ⟨v, hc, hv⟩ := h w fz β vs hG hP
  refine hc.mono ?_
  rintro e w' ⟨rfl, hb⟩
  exact ⟨v, fun _ => none, fz, rfl, ⟨hb.os, hb.tape, hb.output, hb.size, fun k hk _ => hb.block k hk⟩, fun b h => h, fun b h => ⟨Nat.lt_of_lt_of_le (hfz b h) hb.size, fun _ => h⟩, Nat.le_refl _, fun t ht => absurd ht (Nat.not_lt_zero _),
    hv w' fz, fun t r h => by simp at h, fun t t' o o' ht => absurd ht (Nat.not_lt_zero _), fun t o ht => absurd ht (Nat.not_lt_zero _)⟩
theorem Pw.head {w : World} {fz : Nat → Prop} {β : Nat → Option Own} {dm : Nat → Option Nat} {x : AV} {cs : List AV} {vs : List Value} (h : Pw w fz β dm (x :: cs) vs) : ∃ v us, vs = v :: us ∧ V w fz β dm x v ∧ Pw w fz β dm cs us := by
  obtain ⟨hl, hV⟩ := h
  cases vs with
  | nil => simp at hl
  | cons v us => exact ⟨v, us, rfl, hV 0 x v rfl rfl, by simpa using hl, fun i y u h1 h2 => hV (i + 1) y u (by simpa using h1) (by simpa using h2)⟩
theorem Pw.none {w : World} {fz : Nat → Prop} {β : Nat → Option Own} {dm : Nat → Option Nat} {vs : List Value} (h : Pw w fz β dm [] vs) : vs = [] := List.eq_nil_of_length_eq_zero h.1
theorem below_drewN (w : World) (n : Nat) : Below w.heap.size w (w.drewN n) := ⟨rfl, rfl, rfl, Nat.le_refl _, fun _ _ => rfl⟩
end Go.Proofs.YtpchdjdochkjpaaGreatDoor.Am
set_option linter.unusedVariables false
set_option linter.unusedSimpArgs false
namespace Go.Proofs.YtpchdjdochkjpaaGreatDoor.Am
open Go Go.RowKit Go.Proofs.YtpchdjdochkjpaaGreatDoorW.PrintWords
open Go.Proofs.YtpchdjdochkjpaaGreatDoor.P
def rwC (r : Rw) : List AV := [.str r.n, .int .i64 r.v, .int .i64 r.d.d0, .int .i64 r.d.d1, .int .i64 r.d.d2, .int .i64 r.d.d3, .int .i64 r.d.d4, .int .i64 r.d.d5, .int .i64 r.d.d6, .bool r.q]
def pfC (p : Pf) : List AV := [.str p.n, .int .i64 p.v]
def rowsT : List AV := rwL.flatMap rwC
def pfxT : List AV := pfL.flatMap pfC
def G0 (mx : Int) : Nat → AV := fun g => if g = 0 then .fptr (.agg rowsT) else if g = 1 then .fptr (.agg pfxT) else .dead
theorem mixed : Tryz.prog.follows .mixedOrders = true := by kernel_rfl
set_option maxRecDepth 20000 in
theorem tyE : (hasT Tryz.prog 2 = true) ∧ (kn Tryz.prog 2 = .int .i64) ∧ (kd Tryz.prog 2 = some (false, 1)) ∧ (zv Tryz.prog 2 = (.int .i64 0)) ∧ (hasT Tryz.prog 3 = true) ∧ (kn Tryz.prog 3 = .int .i64) ∧ (kd Tryz.prog 3 = some (false, 1)) ∧ (zv Tryz.prog 3 = (.int .i64 0)) ∧ (hasT Tryz.prog 4 = true) ∧ (kn Tryz.prog 4 = .bool) ∧ (kd Tryz.prog 4 = some (false, 1)) ∧ (zv Tryz.prog 4 = (.bool false)) ∧ (hasT Tryz.prog 5 = true) ∧ (kn Tryz.prog 5 = .int .u8) ∧ (kd Tryz.prog 5 = some (false, 1)) ∧ (zv Tryz.prog 5 = (.int .u8 0)) ∧ (hasT Tryz.prog 9 = true) ∧ (kn Tryz.prog 9 = .str) ∧ (kd Tryz.prog 9 = some (false, 1)) ∧ (zv Tryz.prog 9 = (.str ⟨#[]⟩)) ∧ (hasT Tryz.prog 15 = true) ∧ (isPt Tryz.prog 15 = true) ∧ (kd Tryz.prog 15 = some (false, 1)) ∧ (zv Tryz.prog 15 = (.raw (.pointer none))) ∧ (hasT Tryz.prog 23 = true) ∧ (isPt Tryz.prog 23 = true) ∧ (kd Tryz.prog 23 = some (false, 1)) ∧ (zv Tryz.prog 23 = (.raw (.pointer none))) ∧ (hasT Tryz.prog 29 = true) ∧ (kn Tryz.prog 29 = .slice 84) ∧ (kd Tryz.prog 29 = some (false, 1)) ∧ (elS Tryz.prog 29 = some (84, 1, 4, (.int .u32 0))) ∧ (zv Tryz.prog 29 = .nil) ∧ (hasT Tryz.prog 31 = true) ∧ (fdS Tryz.prog 31 0 = some (0, false, 1)) ∧ (fdS Tryz.prog 31 1 = some (1, false, 1)) ∧ (kd Tryz.prog 31 = some (true, 2)) ∧ (plA Tryz.prog 31 = some (.st [(0, 1), (1, 1)])) ∧ (zv Tryz.prog 31 = (.agg [(.bool false), .nil])) ∧ (hasT Tryz.prog 33 = true) ∧ (fdS Tryz.prog 33 0 = some (0, true, 2)) ∧ (fdS Tryz.prog 33 1 = some (2, false, 1)) ∧ (kd Tryz.prog 33 = some (true, 3)) ∧ (plA Tryz.prog 33 = some (.st [(0, 2), (2, 1)])) ∧ (zv Tryz.prog 33 = (.agg [(.bool false), .nil, .nil])) ∧ (hasT Tryz.prog 35 = true) ∧ (zv Tryz.prog 35 = (.agg [(.int .i64 0), (.int .i64 0), (.int .i64 0), (.int .i64 0), (.int .i64 0), (.int .i64 0), (.int .i64 0)])) ∧ (plA Tryz.prog 35 = some (.ar 1)) ∧ (eqT Tryz.prog 35 = some [.int .i64, .int .i64, .int .i64, .int .i64, .int .i64, .int .i64, .int .i64]) ∧ (arS Tryz.prog 35 = some (7, false, 1, (.int .i64 0))) ∧ (kd Tryz.prog 35 = some (true, 7)) ∧ (hasT Tryz.prog 37 = true) ∧ (fdS Tryz.prog 37 0 = some (0, true, 3)) ∧ (fdS Tryz.prog 37 1 = some (3, true, 7)) ∧ (kd Tryz.prog 37 = some (true, 10)) ∧ (plA Tryz.prog 37 = some (.st [(0, 3), (3, 7)])) ∧ (zv Tryz.prog 37 = (.agg [(.bool false), .nil, .nil, (.int .i64 0), (.int .i64 0), (.int .i64 0), (.int .i64 0), (.int .i64 0), (.int .i64 0), (.int .i64 0)])) ∧ (hasT Tryz.prog 42 = true) ∧ (kn Tryz.prog 42 = .int .i64) ∧ (kd Tryz.prog 42 = some (false, 1)) ∧ (zv Tryz.prog 42 = (.int .i64 0)) ∧ (hasT Tryz.prog 56 = true) ∧ (fdS Tryz.prog 56 0 = some (0, false, 1)) ∧ (fdS Tryz.prog 56 1 = some (1, false, 1)) ∧ (kd Tryz.prog 56 = some (true, 2)) ∧ (plA Tryz.prog 56 = some (.st [(0, 1), (1, 1)])) ∧ (eqT Tryz.prog 56 = some [.int .i64, .int .i64]) ∧ (zv Tryz.prog 56 = (.agg [(.int .i64 0), (.int .i64 0)])) ∧ (hasT Tryz.prog 63 = true) ∧ (kn Tryz.prog 63 = .slice 9) ∧ (kd Tryz.prog 63 = some (false, 1)) ∧ (elS Tryz.prog 63 = some (9, 1, 16, (.str ⟨#[]⟩))) ∧ (zv Tryz.prog 63 = .nil) ∧ (hasT Tryz.prog 72 = true) ∧ (kn Tryz.prog 72 = .int .u16) ∧ (kd Tryz.prog 72 = some (false, 1)) ∧ (zv Tryz.prog 72 = (.int .u16 0)) ∧ (hasT Tryz.prog 76 = true) ∧ (kn Tryz.prog 76 = .slice 33) ∧ (kd Tryz.prog 76 = some (false, 1)) ∧ (elS Tryz.prog 76 = some (33, 3, 56, (.agg [(.bool false), .nil, .nil]))) ∧ (zv Tryz.prog 76 = .nil) ∧ (hasT Tryz.prog 84 = true) ∧ (kn Tryz.prog 84 = .int .u32) ∧ (kd Tryz.prog 84 = some (false, 1)) ∧ (zv Tryz.prog 84 = (.int .u32 0)) ∧ (hasT Tryz.prog 92 = true) ∧ (fdS Tryz.prog 92 0 = some (0, true, 0)) ∧ (fdS Tryz.prog 92 1 = some (0, true, 1)) ∧ (fdS Tryz.prog 92 2 = some (1, true, 2)) ∧ (kd Tryz.prog 92 = some (true, 3)) ∧ (plA Tryz.prog 92 = some (.st [(0, 0), (0, 1), (1, 2)])) ∧ (zv Tryz.prog 92 = (.agg [(.int .u32 0), (.int .i32 0), (.int .u32 0)])) ∧ (hasT Tryz.prog 93 = true) ∧ (kd Tryz.prog 93 = some (false, 1)) ∧ (zv Tryz.prog 93 = (.raw (.map none))) ∧ (hasT Tryz.prog 95 = true) ∧ (fdS Tryz.prog 95 0 = some (0, true, 3)) ∧ (fdS Tryz.prog 95 1 = some (3, false, 1)) ∧ (kd Tryz.prog 95 = some (true, 4)) ∧ (plA Tryz.prog 95 = some (.st [(0, 3), (3, 1)])) ∧ (zv Tryz.prog 95 = (.agg [(.int .u32 0), (.int .i32 0), (.int .u32 0), (.raw (.map none))])) ∧ (hasT Tryz.prog 98 = true) ∧ (fdS Tryz.prog 98 0 = some (0, true, 3)) ∧ (fdS Tryz.prog 98 1 = some (3, false, 1)) ∧ (kd Tryz.prog 98 = some (true, 4)) ∧ (plA Tryz.prog 98 = some (.st [(0, 3), (3, 1)])) ∧ (zv Tryz.prog 98 = (.agg [(.bool false), .nil, .nil, (.int .i64 0)])) ∧ (hasT Tryz.prog 104 = true) ∧ (isPt Tryz.prog 104 = true) ∧ (kd Tryz.prog 104 = some (false, 1)) ∧ (zv Tryz.prog 104 = (.raw (.pointer none))) ∧ (hasT Tryz.prog 106 = true) ∧ (fdS Tryz.prog 106 0 = some (0, false, 1)) ∧ (fdS Tryz.prog 106 1 = some (1, false, 1)) ∧ (fdS Tryz.prog 106 2 = some (2, false, 1)) ∧ (fdS Tryz.prog 106 3 = some (3, true, 10)) ∧ (fdS Tryz.prog 106 4 = some (13, true, 2)) ∧ (kd Tryz.prog 106 = some (true, 15)) ∧ (plA Tryz.prog 106 = some (.st [(0, 1), (1, 1), (2, 1), (3, 10), (13, 2)])) ∧ (zv Tryz.prog 106 = (.agg [(.raw (.pointer none)), (.str ⟨#[]⟩), (.int .i64 0), (.bool false), .nil, .nil, (.int .i64 0), (.int .i64 0), (.int .i64 0), (.int .i64 0), (.int .i64 0), (.int .i64 0), (.int .i64 0), (.int .i64 0), (.int .i64 0)])) ∧ (hasT Tryz.prog 130 = true) ∧ (kn Tryz.prog 130 = .int .u64) ∧ (kd Tryz.prog 130 = some (false, 1)) ∧ (zv Tryz.prog 130 = (.int .u64 0)) ∧ (hasT Tryz.prog 131 = true) ∧ (kn Tryz.prog 131 = .slice 5) ∧ (kd Tryz.prog 131 = some (false, 1)) ∧ (elS Tryz.prog 131 = some (5, 1, 1, (.int .u8 0))) ∧ (zv Tryz.prog 131 = .nil) ∧ (hasT Tryz.prog 147 = true) ∧ (kn Tryz.prog 147 = .int .u64) ∧ (kd Tryz.prog 147 = some (false, 1)) ∧ (zv Tryz.prog 147 = (.int .u64 0)) ∧ (hasT Tryz.prog 151 = true) ∧ (fdS Tryz.prog 151 0 = some (0, false, 1)) ∧ (fdS Tryz.prog 151 1 = some (1, false, 1)) ∧ (fdS Tryz.prog 151 2 = some (2, true, 7)) ∧ (fdS Tryz.prog 151 3 = some (9, false, 1)) ∧ (kd Tryz.prog 151 = some (true, 10)) ∧ (plA Tryz.prog 151 = some (.st [(0, 1), (1, 1), (2, 7), (9, 1)])) ∧ (zv Tryz.prog 151 = (.agg [(.str ⟨#[]⟩), (.int .i64 0), (.int .i64 0), (.int .i64 0), (.int .i64 0), (.int .i64 0), (.int .i64 0), (.int .i64 0), (.int .i64 0), (.bool false)])) ∧ (arS Tryz.prog 152 = some (17, true, 10, (.agg [(.str ⟨#[]⟩), (.int .i64 0), (.int .i64 0), (.int .i64 0), (.int .i64 0), (.int .i64 0), (.int .i64 0), (.int .i64 0), (.int .i64 0), (.bool false)]))) ∧ (kd Tryz.prog 152 = some (true, 170)) ∧ (hasT Tryz.prog 155 = true) ∧ (fdS Tryz.prog 155 0 = some (0, false, 1)) ∧ (fdS Tryz.prog 155 1 = some (1, false, 1)) ∧ (kd Tryz.prog 155 = some (true, 2)) ∧ (plA Tryz.prog 155 = some (.st [(0, 1), (1, 1)])) ∧ (zv Tryz.prog 155 = (.agg [(.str ⟨#[]⟩), (.int .i64 0)])) ∧ (hasT Tryz.prog 156 = true) ∧ (zv Tryz.prog 156 = (.agg [(.str ⟨#[]⟩), (.int .i64 0), (.str ⟨#[]⟩), (.int .i64 0), (.str ⟨#[]⟩), (.int .i64 0), (.str ⟨#[]⟩), (.int .i64 0), (.str ⟨#[]⟩), (.int .i64 0)])) ∧ (plA Tryz.prog 156 = some (.ar 2)) ∧ (arS Tryz.prog 156 = some (5, true, 2, (.agg [(.str ⟨#[]⟩), (.int .i64 0)]))) ∧ (kd Tryz.prog 156 = some (true, 10)) ∧ (hasT Tryz.prog 164 = true) ∧ (fdS Tryz.prog 164 0 = some (0, false, 1)) ∧ (fdS Tryz.prog 164 1 = some (1, false, 1)) ∧ (fdS Tryz.prog 164 2 = some (2, false, 1)) ∧ (kd Tryz.prog 164 = some (true, 3)) ∧ (plA Tryz.prog 164 = some (.st [(0, 1), (1, 1), (2, 1)])) ∧ (zv Tryz.prog 164 = (.agg [.nil, .nil, (.bool false)])) ∧ (∀ mx, G0 mx 0 = .fptr (.agg rowsT)) ∧ (∀ mx, G0 mx 1 = .fptr (.agg pfxT)) ∧ (rowsT.length = 170) ∧ (pfxT.length = 10) :=
  ⟨by kernel_rfl, by kernel_rfl, by kernel_rfl, by kernel_rfl, by kernel_rfl, by kernel_rfl, by kernel_rfl, by kernel_rfl, by kernel_rfl, by kernel_rfl, by kernel_rfl, by kernel_rfl, by kernel_rfl, by kernel_rfl, by kernel_rfl, by kernel_rfl, by kernel_rfl, by kernel_rfl, by kernel_rfl, by kernel_rfl, by kernel_rfl, by kernel_rfl, by kernel_rfl, by kernel_rfl, by kernel_rfl, by kernel_rfl, by kernel_rfl, by kernel_rfl, by kernel_rfl, by kernel_rfl, by kernel_rfl, by kernel_rfl, by kernel_rfl, by kernel_rfl, by kernel_rfl, by kernel_rfl, by kernel_rfl, by kernel_rfl, by kernel_rfl, by kernel_rfl, by kernel_rfl, by kernel_rfl, by kernel_rfl, by kernel_rfl, by kernel_rfl, by kernel_rfl, by kernel_rfl, by kernel_rfl, by kernel_rfl, by kernel_rfl, by kernel_rfl, by kernel_rfl, by kernel_rfl, by kernel_rfl, by kernel_rfl, by kernel_rfl, by kernel_rfl, by kernel_rfl, by kernel_rfl, by kernel_rfl, by kernel_rfl, by kernel_rfl, by kernel_rfl, by kernel_rfl, by kernel_rfl, by kernel_rfl, by kernel_rfl, by kernel_rfl, by kernel_rfl, by kernel_rfl, by kernel_rfl, by kernel_rfl, by kernel_rfl, by kernel_rfl, by kernel_rfl, by kernel_rfl, by kernel_rfl, by kernel_rfl, by kernel_rfl, by kernel_rfl, by kernel_rfl, by kernel_rfl, by kernel_rfl, by kernel_rfl, by kernel_rfl, by kernel_rfl, by kernel_rfl, by kernel_rfl, by kernel_rfl, by kernel_rfl, by kernel_rfl, by kernel_rfl, by kernel_rfl, by kernel_rfl, by kernel_rfl, by kernel_rfl, by kernel_rfl, by kernel_rfl, by kernel_rfl, by kernel_rfl, by kernel_rfl, by kernel_rfl, by kernel_rfl, by kernel_rfl, by kernel_rfl, by kernel_rfl, by kernel_rfl, by kernel_rfl, by kernel_rfl, by kernel_rfl, by kernel_rfl, by kernel_rfl, by kernel_rfl, by kernel_rfl, by kernel_rfl, by kernel_rfl, by kernel_rfl, by kernel_rfl, by kernel_rfl, by kernel_rfl, by kernel_rfl, by kernel_rfl, by kernel_rfl, by kernel_rfl, by kernel_rfl, by kernel_rfl, by kernel_rfl, by kernel_rfl, by kernel_rfl, by kernel_rfl, by kernel_rfl, by kernel_rfl, by kernel_rfl, by kernel_rfl, by kernel_rfl, by kernel_rfl, by kernel_rfl, by kernel_rfl, by kernel_rfl, by kernel_rfl, by kernel_rfl, by kernel_rfl, by kernel_rfl, by kernel_rfl, by kernel_rfl, by kernel_rfl, by kernel_rfl, by kernel_rfl, by kernel_rfl, by kernel_rfl, by kernel_rfl, by kernel_rfl, by kernel_rfl, by kernel_rfl, by kernel_rfl, by kernel_rfl, by kernel_rfl, by kernel_rfl, by kernel_rfl, by kernel_rfl, by kernel_rfl, by kernel_rfl, fun _ => rfl, fun _ => rfl, by kernel_rfl, by kernel_rfl⟩
open Go.Proofs.YtpchdjdochkjpaaGreatDoor.P
def avD (d : Dm) : AV := .agg [.int .i64 d.d0, .int .i64 d.d1, .int .i64 d.d2, .int .i64 d.d3, .int .i64 d.d4, .int .i64 d.d5, .int .i64 d.d6]
def avU (u : Un) : AV := .agg [.bool u.g, .sl 1 (.int .u32 0) (u.m.map (AV.int .u32)), .sl 1 (.int .u32 0) (u.b.map (AV.int .u32)), .int .i64 u.d.d0, .int .i64 u.d.d1, .int .i64 u.d.d2, .int .i64 u.d.d3, .int .i64 u.d.d4, .int .i64 u.d.d5, .int .i64 u.d.d6]
def rdR (v : Value) (s : ByteArray) (x : Rd) : Row := ⟨106, 15, (.agg [(.raw (.pointer none)), (.str ⟨#[]⟩), (.int .i64 0), (.bool false), .nil, .nil, (.int .i64 0), (.int .i64 0), (.int .i64 0), (.int .i64 0), (.int .i64 0), (.int .i64 0), (.int .i64 0), (.int .i64 0), (.int .i64 0)]), [.agg [.raw v, .str s, .int .i64 x.i, .bool x.u.g, .sl 1 (.int .u32 0) (x.u.m.map (AV.int .u32)), .sl 1 (.int .u32 0) (x.u.b.map (AV.int .u32)), .int .i64 x.u.d.d0, .int .i64 x.u.d.d1, .int .i64 x.u.d.d2, .int .i64 x.u.d.d3, .int .i64 x.u.d.d4, .int .i64 x.u.d.d5, .int .i64 x.u.d.d6, .int .i64 x.e, .int .i64 x.p]]⟩
attribute [go_sem] List.length_set bytesE numsE szX cpS one0 strOne szS catN List.size_toArray beqB takeLi catA Int.zero_mul getI0 getI1 rdN cpyL1 tlE m8 strE takeD takeDn catE szE takeS beqI bneI bneD List.length_replicate cpyL cpyLi cplE Int.le_refl beqD Int.zero_sub Bool.false_or Bool.or_true List.length_cons List.length_nil getI Int.toNat_zero kl_apply ne_eq not_false_eq_true not_true_eq_false subE actE evE rwE wrE mapE rdE tyE act vl voSome voNone bn bnI bnS un cvt idx idxA ld ldXE eqA eqL eq1 w64E st part setPart ptrFd cutOwn cutStr cutSl optI lenV mkAgg fillA Pl.at litE deepS deepL deep deepAll srcL srcN cpA apA tags tagS tagOk sizedAs killV killA killS need shE AV.scalar decide_true decide_false cond_true cond_false Bool.and_true Bool.true_and Bool.and_self Bool.not_true Bool.not_false Bool.and_false Bool.false_and Option.isNone_none Option.isNone_some List.map_cons List.map_nil Option.map_some Option.map_none List.getD_cons_zero List.getD_cons_succ List.getElem?_cons_zero List.getElem?_cons_succ List.length_cons List.length_nil List.all_cons List.all_nil List.all_map List.contains_nil List.contains_cons List.flatMap_cons List.flatMap_nil List.nil_append List.cons_append List.append_nil List.set_cons_zero List.set_cons_succ List.take_zero List.take_succ_cons List.drop_zero List.drop_succ_cons List.take_nil List.drop_nil Nat.zero_add Nat.add_zero Nat.sub_zero Function.comp_def bne_self_eq_false avD avU rdR
attribute [simp] avD avU rdR
end Go.Proofs.YtpchdjdochkjpaaGreatDoor.Am
set_option linter.unusedVariables false
set_option linter.unusedSimpArgs false
namespace Go.Proofs.YtpchdjdochkjpaaGreatDoor.Am
open Go Go.RowKit Go.Proofs.YtpchdjdochkjpaaGreatDoor.P
section
variable {X : Cx} {s : St} {fz : Nat → Prop} {β : Nat → Option Own} {a : Act} {w : World}
theorem Rel.turn (h : Rel X s fz β a w) {x' : Rs} {w' : World} (hos : w'.os = w.os) (htp : w'.tape = w.tape) (hout : w'.output = w.output) (hsz : w.heap.size ≤ w'.heap.size) (hb : ∀ b, b < w.heap.size → ¬ s.x.bl w b → w'.heap[b]? = w.heap[b]?)
    (hx : x'.ok w' fz) (hbl : ∀ b, x'.bl w' b → s.x.bl w b ∨ (w.heap.size ≤ b ∧ b < w'.heap.size)) : Rel X { s with x := x' } fz β a w' := by
  have hf : ∀ b, fz b → w'.heap[b]? = w.heap[b]? := fun b hb' => hb b (h.fs b hb').1 (fun hz => (h.xo.2 b hz).2.1 hb')
  have hlt : ∀ t o, s.H t ≠ none → β t = some o → o.blk < w.heap.size := fun t o ht ho => by
    cases hq : s.H t with
    | none => exact absurd hq ht
    | some r => exact (h.rw t r hq).lt ho
  refine ⟨⟨hos.trans h.bel.os, htp.trans h.bel.tape, hout.trans h.bel.output, Nat.le_trans h.bel.size hsz, fun k hk hn => (hb k (Nat.lt_of_lt_of_le hk h.bel.size) (fun hz => ?_)).trans (h.bel.block k hk hn)⟩, h.sz, h.df,
    fun i hi => (h.tm i hi).mono hf (fun _ z => z) (fun _ _ z => z) (fun _ _ _ => rfl), fun t r ht => (h.rw t r ht).mono hf (fun _ z => z) rfl (fun o ho => hb _ ((h.rw t r ht).lt ho) (fun hz => (h.xo.2 _ hz).2.2.2 t o (by rw [ht]; simp) ho rfl)), h.ij, h.lo, h.fl,
    fun b hb' => ⟨Nat.lt_of_lt_of_le (h.fs b hb').1 hsz, (h.fs b hb').2⟩, h.f0, fun g hg => (h.gl g hg).mono hf (fun _ z => z), h.bi, fun i hi => (h.vt i hi).imp fun v hv => hv.mono hf (fun _ z => z) (fun _ _ z => z) (fun _ _ _ => rfl), hx, fun b hb' => ?_⟩
  · rcases (h.xo.2 k hz).2.2.1 with h1 | h1
    · omega
    · exact hn h1
  · rcases hbl b hb' with hz | ⟨h1, h2⟩
    · obtain ⟨k1, k2, k3, k4⟩ := h.xo.2 b hz
      exact ⟨Nat.lt_of_lt_of_le k1 hsz, k2, k3, k4⟩
    · refine ⟨h2, fun hz => ?_, .inl (Nat.le_trans h.bel.size h1), fun t o ht ho e => ?_⟩
      · have := (h.fs b hz).1; omega
      · have := hlt t o ht ho; omega
theorem Rel.recast (h : Rel X s fz β a w) {x' : Rs} (hx : x'.ok w fz) (hbl : ∀ b, x'.bl w b → s.x.bl w b) : Rel X { s with x := x' } fz β a w :=
  h.turn rfl rfl rfl (Nat.le_refl _) (fun _ _ _ => rfl) hx (fun b hb => .inl (hbl b hb))
end
def tadd (l : Tab) (n : ByteArray) (u : Un) : Tab := if (tget n l).isSome then l else l ++ [(n, u)]
def tabC (d st : Int) (m : Value) : Array Value := #[.int .u32 d, .int .i32 st, .int .u32 0, m]
def MapOk (w : World) (fz : Nat → Prop) (mb : Nat) (l : Tab) : Prop :=
  ∃ (es : List MapEntry) (clock : Nat), w.heap[mb]? = some (.map es.toArray clock) ∧ Go.MapKept.Stamped es.toArray clock ∧ es.length = l.length ∧ ∀ (i : Nat) (e : MapEntry) (p : ByteArray × Un), es[i]? = some e → l[i]? = some p → e.key = .string p.1 ∧ F w fz (avU p.2) e.val
theorem MapOk.mono {w w' : World} {fz fz' : Nat → Prop} {mb : Nat} {l : Tab} (h : MapOk w fz mb l) (hw : ∀ b, fz b ∨ b = mb → w'.heap[b]? = w.heap[b]?) (hz : ∀ b, fz b → fz' b) : MapOk w' fz' mb l := by
  obtain ⟨es, c, h1, h2, h3, h4⟩ := h
  exact ⟨es, c, (hw mb (.inr rfl)).trans h1, h2, h3, fun i e p a b => ⟨(h4 i e p a b).1, (h4 i e p a b).2.mono (fun b hb => hw b (.inl hb)) hz⟩⟩
theorem tget_none : ∀ {l : Tab} {n : ByteArray}, tget n l = none → ∀ {p : ByteArray × Un}, p ∈ l → n ≠ p.1
  | q :: l, n, h, p, hp => by
    simp only [tget] at h
    split at h
    · cases h
    · rename_i c
      rcases List.mem_cons.1 hp with rfl | hp
      · exact fun e => c ((Go.MapKept.bytes_beq _ _).2 e)
      · exact tget_none h hp
theorem cell_tab {w : World} {tb : Nat} {d st : Int} {m : Value} (h : w.heap[tb]? = some (.cells (tabC d st m) 95 (0, 0))) : w.cell? ⟨tb, 0, none⟩ = some (.int .u32 d) ∧ w.cell? ⟨tb, 1, none⟩ = some (.int .i32 st) ∧ w.cell? ⟨tb, 2, none⟩ = some (.int .u32 0) ∧ w.cell? ⟨tb, 3, none⟩ = some m := by
  refine ⟨?_, ?_, ?_, ?_⟩ <;> (rw [cell_of_row w _ _ _ _ _ h]; rfl)
def tbG (tb mb : Nat) (d st : Int) (m : Value) (l : Tab) : Rs where
  bl _ b := b = tb ∨ b = mb
  ok w fz := tb ≠ mb ∧ m.cells = #[m] ∧ m.oneCell' = true ∧ w.heap[tb]? = some (.cells (tabC d st m) 95 (0, 0)) ∧ MapOk w fz mb l
  rd a := if a = ⟨tb, 3, none⟩ then some m else none
  mono := fun ⟨h1, h2, h3, h4, h5⟩ hw hz => ⟨⟨h1, h2, h3, (hw tb (.inr (.inl rfl))).trans h4, h5.mono (fun b hb => hw b (hb.imp id (fun e => .inr e))) hz⟩, fun b h => h⟩
  rdok := fun {w fz a u} ⟨h1, h2, h3, h4, h5⟩ hr => by
    by_cases c : a = ⟨tb, 3, none⟩
    · rw [if_pos c] at hr
      obtain rfl := Option.some.inj hr
      subst c
      exact ⟨rfl, (cell_tab h4).2.2.2, h2, h3⟩
    · rw [if_neg c] at hr; cases hr
abbrev tbO (tb mb : Nat) (d st : Int) (l : Tab) : Rs := tbG tb mb d st (.map (some mb)) l
theorem tbO_rd (tb mb : Nat) (d st : Int) (m : Value) (l : Tab) : (tbG tb mb d st m l).rd ⟨tb, 3, none⟩ = some m := if_pos rfl
def tbN (tb : Nat) (d st : Int) : Rs where
  bl _ b := b = tb
  ok w fz := w.heap[tb]? = some (.cells (tabC d st (.map none)) 95 (0, 0))
  rd _ := none
  mono := fun h hw hz => ⟨(hw tb (.inr rfl)).trans h, fun b h => h⟩
  rdok := fun _ h => nomatch h
def tbR (tb : Nat) (T : Option Tab) : Rs where
  bl w b := b = tb ∨ ∃ cur e f, w.heap[tb]? = some (.cells cur e f) ∧ cur[3]? = some (.map (some b))
  ok w fz := match T with
    | none => (tbN tb 0 0).ok w fz
    | some l => ∃ mb, (tbO tb mb 1 0 l).ok w fz
  rd _ := none
  mono := fun {w w' fz fz'} h hw hz => by
    have e : w'.heap[tb]? = w.heap[tb]? := hw tb (.inr (.inl rfl))
    refine ⟨?_, fun b hb => by rw [e] at hb; exact hb⟩
    cases T with
    | none => exact ((tbN tb 0 0).mono h (fun b hb => hw b (hb.imp id .inl)) hz).1
    | some l =>
      obtain ⟨mb, h⟩ := h
      refine ⟨mb, ((tbO tb mb 1 0 l).mono h (fun b hb => hw b (hb.imp id (fun hb => hb.imp id (fun hb => ?_)))) hz).1⟩
      subst hb
      exact ⟨_, _, _, h.2.2.2.1, rfl⟩
  rdok := fun _ h => nomatch h
theorem tbR_open {tb : Nat} {l : Tab} {w : World} {fz : Nat → Prop} (h : (tbR tb (some l)).ok w fz) : ∃ mb, (tbO tb mb 1 0 l).ok w fz ∧ ∀ b, (tbO tb mb 1 0 l).bl w b → (tbR tb (some l)).bl w b := by
  obtain ⟨mb, h⟩ := h
  refine ⟨mb, h, fun b hb => hb.imp id (fun hb => ?_)⟩
  subst hb
  exact ⟨_, _, _, h.2.2.2.1, rfl⟩
theorem tbR_close {tb mb : Nat} {l : Tab} {w : World} {fz : Nat → Prop} (h : (tbO tb mb 1 0 l).ok w fz) : (tbR tb (some l)).ok w fz ∧ ∀ b, (tbR tb (some l)).bl w b → (tbO tb mb 1 0 l).bl w b := by
  refine ⟨⟨mb, h⟩, fun b hb => hb.imp id (fun ⟨cur, e, f, h1, h2⟩ => ?_)⟩
  have h4 := h.2.2.2.1
  rw [h4] at h1
  simp only [Option.some.injEq, Obj.cells.injEq] at h1
  obtain ⟨rfl, _, _⟩ := h1
  simp [tabC] at h2
  exact h2.symm
section
variable {R : Type} {M : Pm} {J : R → Out} {G : Option R} {k : List Item} {s : St} {ops : Array Oper} {idx : List Nat}
theorem sim_open {tb : Nat} {l : Tab} (hx : s.x = tbR tb (some l)) (h : ∀ mb, Sim M J G k { s with x := tbO tb mb 1 0 l }) : Sim M J G k s := fun E hE r hr fz β a w hR b cs hb hk => by
  have h0 := hR.xo.1
  rw [hx] at h0
  obtain ⟨mb, h1, h2⟩ := tbR_open h0
  exact h mb E hE r hr _ _ _ _ (hR.recast h1 (by rw [hx]; exact h2)) b cs hb hk
theorem sim_close {tb mb : Nat} {l : Tab} (hx : s.x = tbO tb mb 1 0 l) (h : Sim M J G k { s with x := tbR tb (some l) }) : Sim M J G k s := fun E hE r hr fz β a w hR b cs hb hk => by
  have h0 := hR.xo.1
  rw [hx] at h0
  obtain ⟨h1, h2⟩ := tbR_close h0
  exact h E hE r hr _ _ _ _ (hR.recast h1 (by rw [hx]; exact h2)) b cs hb hk
theorem simR_val {i d : Nat} {o : Oper} {y : AV} (ho : ops[i]? = some o) (hd : o.dst = some d) (hg : gd M.N ops s.env o = some true)
    (hr : ∀ E : Fx, EOk M E → ∀ fz β a w, Rel E.X s fz β a w → ∃ v, (execOp a.eval o).run E.X.P w = .ok (.value v) w ∧ V w fz β s.dm y v)
    (h : SimR M J ops G idx k { s with env := upd s.env d y }) : SimR M J ops G (i :: idx) k s := fun E hE r hr' fz β a w hR => by
  rw [wpOps_cons]
  unfold wpOp
  simp only [ho]
  rw [gd_ok hR (by rw [hE.n]; exact hg)]
  simp only [if_true]
  left
  obtain ⟨v, hrun, hV⟩ := hr E hE fz β a w hR
  unfold Oper.wp
  rw [hrun]
  simp only [Oper.upon]
  rw [hd]
  exact h E hE r hr' _ _ _ _ (hR.put hV (some d))
theorem findNow_tab {w : World} {fz : Nat → Prop} (s : ByteArray) : ∀ (es : List MapEntry) (l : Tab) (n : Nat), es.length = l.length → (∀ (i : Nat) (e : MapEntry) (p : ByteArray × Un), es[i]? = some e → l[i]? = some p → e.key = .string p.1 ∧ F w fz (avU p.2) e.val) →
    (∃ u j v, tget s l = some u ∧ Instr.findNow .string (.string s) es n = some (some (j, v)) ∧ F w fz (avU u) v) ∨ (tget s l = none ∧ Instr.findNow .string (.string s) es n = some none)
  | [], [], n, _, _ => .inr ⟨rfl, rfl⟩
  | [], p :: l, n, h, _ => by simp at h
  | e :: es, [], n, h, _ => by simp at h
  | e :: es, p :: l, n, h, hk => by
    obtain ⟨e0, eF⟩ := hk 0 e p rfl rfl
    have hs : Instr.sameNow .string (.string s) e.key = some (s == p.1) := by rw [e0]; rfl
    by_cases c : (s == p.1) = true
    · left
      refine ⟨p.2, n, e.val, by simp only [tget]; rw [if_pos c], ?_, eF⟩
      simp only [Instr.findNow, hs, c]
    · have c' := Bool.eq_false_iff.2 c
      have ih := findNow_tab s es l (n + 1) (by simpa using h) (fun i e p a b => hk (i + 1) e p (by simpa using a) (by simpa using b))
      simp only [tget, Instr.findNow, hs, c', Bool.false_eq_true, if_false]
      exact ih
theorem raw_val {w : World} {fz : Nat → Prop} {β : Nat → Option Own} {dm : Nat → Option Nat} {u v : Value} (h : V w fz β dm (.raw u) v) : v = u := by cases h with | f _ _ hf => cases hf; rfl
theorem simR_look {i d tb mb : Nat} {dd st : Int} {l : Tab} {o : Oper} {t kt et : TypeId} {x q : Operand} {n : ByteArray} {z : AV} (ho : ops[i]? = some o) (hop : o.op = .lookup t x q true) (hd : o.dst = some d) (hg : gd M.N ops s.env o = some true)
    (hs : s.x = tbO tb mb dd st l) (ht : M.P.underlying t = some (.map kt et)) (hk : M.P.underlying kt = some .string) (hx : ev M.N M.G s.env x = .raw (.map (some mb))) (hq : ev M.N M.G s.env q = .str n) (hz : ∀ w fz, ∃ v, (zeroValue et).run M.P w = .ok v w ∧ F w fz z v)
    (h1 : ∀ u, tget n l = some u → SimR M J ops G idx k { s with env := upd s.env d (.tup [avU u, .bool true]) }) (h2 : tget n l = none → SimR M J ops G idx k { s with env := upd s.env d (.tup [z, .bool false]) }) : SimR M J ops G (i :: idx) k s := by
  have two : ∀ {w : World} {fz : Nat → Prop} {β : Nat → Option Own} {dm : Nat → Option Nat} {y : AV} {v : Value} (c : Bool), F w fz y v → V w fz β dm (.tup [y, .bool c]) (.tuple #[v, .bool c]) := fun {w fz β dm y v} c hF => by
    have := V.tup (w := w) (fz := fz) (β := β) (dm := dm) [y, .bool c] [v, .bool c] rfl (fun i x u a b => by
      rcases i with _ | _ | i
      · simp at a b; subst a b; exact .f _ _ hF
      · simp at a b; subst a b; exact .f _ _ (.bool c)
      · simp at a)
    exact this
  have val : ∀ E : Fx, EOk M E → ∀ fz β a w, Rel E.X s fz β a w → a.eval x = .map (some mb) ∧ a.eval q = .string n ∧ (tbO tb mb dd st l).ok w fz := fun E hE fz β a w hR => by
    have e1 := ev_V hR x
    have e2 := ev_V hR q
    rw [hE.n, hE.g, hx] at e1
    rw [hE.n, hE.g, hq] at e2
    exact ⟨raw_val e1, e2.str_inv, hs ▸ hR.xo.1⟩
  have run : ∀ {P : Program} {w : World} {es : List MapEntry} {clock : Nat} {r : Option (Nat × Value)}, P.underlying t = some (.map kt et) → P.underlying kt = some .string → w.heap[mb]? = some (.map es.toArray clock) → Instr.findNow .string (.string n) es 0 = some r →
      (Instr.lookup t (.map (some mb)) (.string n) true).run P w = (match r with | some (_, v) => .ok (.tuple #[v, .bool true]) w | none => ((zeroValue et).run P w).andThen fun z w => .ok (.tuple #[z, .bool false]) w) := by
    intro P w es clock r ht hk hb hf
    have hf' : Instr.findNow .string (.string n) es.toArray.toList 0 = some r := by simpa using hf
    cases r with
    | none => simp [Instr.lookup, run_underlying ht, Result.andThen, Go.MapKept.run_getObj_map hb, Go.MapKept.run_checkKey (k := .string n) hk (by simp [Go.MapKept.IsKey]) _ 9999, Go.MapKept.run_findKey hk hf']
    | some p => obtain ⟨j, v⟩ := p; simp [Instr.lookup, run_underlying ht, Result.andThen, Go.MapKept.run_getObj_map hb, Go.MapKept.run_checkKey (k := .string n) hk (by simp [Go.MapKept.IsKey]) _ 9999, Go.MapKept.run_findKey hk hf']
  cases hl : tget n l with
  | some u =>
    refine simR_val ho hd hg (fun E hE fz β a w hR => ?_) (h1 u hl)
    obtain ⟨v1, v2, _, _, _, _, es, clock, hb, _, hlen, hent⟩ := val E hE fz β a w hR
    rcases findNow_tab (w := w) (fz := fz) n es l 0 hlen hent with ⟨u', j, v, h3, h4, h5⟩ | ⟨h3, _⟩
    · rw [hl] at h3
      obtain rfl := Option.some.inj h3
      exact ⟨_, by simp [execOp, hop, v1, v2, run (P := E.X.P) (by rw [hE.p]; exact ht) (by rw [hE.p]; exact hk) hb h4], two true h5⟩
    · rw [hl] at h3; cases h3
  | none =>
    refine simR_val ho hd hg (fun E hE fz β a w hR => ?_) (h2 hl)
    obtain ⟨v1, v2, _, _, _, _, es, clock, hb, _, hlen, hent⟩ := val E hE fz β a w hR
    obtain ⟨zv, hzv, hF⟩ := hz w fz
    rcases findNow_tab (w := w) (fz := fz) n es l 0 hlen hent with ⟨u', j, v, h3, h4, h5⟩ | ⟨_, h4⟩
    · rw [hl] at h3; cases h3
    · exact ⟨_, by simp [execOp, hop, v1, v2, hE.p, run (P := M.P) ht hk hb h4, hzv, Result.andThen], two false hF⟩
theorem simR_turn {i : Nat} {o : Oper} {x' : Rs} (ho : ops[i]? = some o) (hd : o.dst = none) (hg : gd M.N ops s.env o = some true)
    (hr : ∀ E : Fx, EOk M E → ∀ fz β a w, Rel E.X s fz β a w → ∃ w', (execOp a.eval o).run E.X.P w = .ok .skip w' ∧ Rel E.X { s with x := x' } fz β a w') (h : SimR M J ops G idx k { s with x := x' }) : SimR M J ops G (i :: idx) k s := fun E hE r hr' fz β a w hR => by
  rw [wpOps_cons]
  unfold wpOp
  simp only [ho]
  rw [gd_ok hR (by rw [hE.n]; exact hg)]
  simp only [if_true]
  left
  obtain ⟨w', hrun, hR'⟩ := hr E hE fz β a w hR
  unfold Oper.wp
  rw [hrun]
  simp only [Oper.upon]
  rw [hd]
  exact h E hE r hr' _ _ _ _ hR'
theorem simR_mapUp {i tb mb : Nat} {dd st : Int} {l : Tab} {o : Oper} {t kt et : TypeId} {x q z : Operand} {n : ByteArray} {u : Un} (ho : ops[i]? = some o) (hop : o.op = .mapUpdate t x q z) (hd : o.dst = none) (hg : gd M.N ops s.env o = some true)
    (hs : s.x = tbO tb mb dd st l) (ht : M.P.underlying t = some (.map kt et)) (hk : M.P.underlying kt = some .string) (hx : ev M.N M.G s.env x = .raw (.map (some mb))) (hq : ev M.N M.G s.env q = .str n) (hz : ev M.N M.G s.env z = avU u) (hn : tget n l = none)
    (h : SimR M J ops G idx k { s with x := tbO tb mb dd st (l ++ [(n, u)]) }) : SimR M J ops G (i :: idx) k s := by
  refine simR_turn ho hd hg (fun E hE fz β a w hR => ?_) h
  have e1 := ev_V hR x
  have e2 := ev_V hR q
  have e3 := ev_V hR z
  rw [hE.n, hE.g, hx] at e1
  rw [hE.n, hE.g, hq] at e2
  rw [hE.n, hE.g, hz] at e3
  have e1 := raw_val e1
  have e2 := e2.str_inv
  have hF : F w fz (avU u) (a.eval z) := by
    generalize a.eval z = vz at e3
    cases e3 with
    | f _ _ h => exact h
    | agg cs vs hl hv =>
      refine .agg _ vs hl (by simp [AV.scalar]) (fun i x v h1 h2 => ?_)
      have hV := hv i x v h1 h2
      have hx : (∃ b, x = .bool b) ∨ (∃ xs, x = .sl 1 (.int .u32 0) xs) ∨ ∃ q, x = .int .i64 q := by
        have hm := List.mem_of_getElem? h1
        simp only [List.mem_cons, List.not_mem_nil, or_false] at hm
        rcases hm with h | h | h | h | h | h | h | h | h | h <;> subst h <;> first | exact .inl ⟨_, rfl⟩ | exact .inr (.inl ⟨_, rfl⟩) | exact .inr (.inr ⟨_, rfl⟩)
      rcases hx with ⟨b, rfl⟩ | ⟨xs, rfl⟩ | ⟨q, rfl⟩ <;> (cases hV with | f _ _ h => exact h)
  obtain ⟨h1, h2, h3, h4, es, clock, hb, hst, hlen, hent⟩ : (tbO tb mb dd st l).ok w fz := hs ▸ hR.xo.1
  obtain ⟨h5⟩ : Instr.findNow .string (.string n) es 0 = some none ∧ True := by
    rcases findNow_tab (w := w) (fz := fz) n es l 0 hlen hent with ⟨u', j, v, g3, g4, g5⟩ | ⟨_, g4⟩
    · rw [hn] at g3; cases g3
    · exact ⟨g4, trivial⟩
  have h5' : Instr.findNow .string (.string n) es.toArray.toList 0 = some none := by simpa using h5
  have ht' : E.X.P.underlying t = some (.map kt et) := by rw [hE.p]; exact ht
  have hk' : E.X.P.underlying kt = some .string := by rw [hE.p]; exact hk
  have hmb := hR.xo.2 mb (by rw [hs]; exact .inr rfl)
  have hset := Go.MapKept.heap_set (o' := .map (es.toArray.push { key := .string n, val := a.eval z, born := clock }) (clock + 1)) hb
  refine ⟨{ w with heap := w.heap.setIfInBounds mb (.map (es.toArray.push { key := .string n, val := a.eval z, born := clock }) (clock + 1)) }, ?_, ?_⟩
  · simp [execOp, hop, e1, e2, Instr.mapUpdate, run_underlying ht', Result.andThen, Go.MapKept.run_getObj_map hb, Go.MapKept.run_checkKey (k := .string n) hk' (by simp [Go.MapKept.IsKey]) _ 9999, Go.MapKept.run_findKey hk' h5', Go.MapKept.run_setObj_map _ hb]
  · refine hR.turn rfl rfl rfl (by simp) (fun b hb' hn' => hset.2 b (fun e => hn' (by rw [hs, e]; exact .inr rfl))) ?_ (fun b hb' => .inl (by rw [hs]; exact hb'))
    refine ⟨h1, h2, h3, (hset.2 tb h1).trans h4, es ++ [{ key := .string n, val := a.eval z, born := clock }], clock + 1, ?_, ?_, by simp [hlen], fun i e p a1 a2 => ?_⟩
    · rw [hset.1]; simp
    · have := Go.MapKept.stamped_push hst (key := .string n) (val := a.eval z) (fun x hx' he => ?_)
      · simpa using this
      · have hx' : x ∈ es := by simpa using hx'
        obtain ⟨i, hi, rfl⟩ := List.getElem_of_mem hx'
        have hil : i < l.length := by omega
        have := (hent i es[i] l[i] (by simp [hi]) (by simp [hil])).1
        rw [he] at this
        have hne := tget_none hn (p := l[i]) (List.getElem_mem hil)
        injection this with this
        exact hne this
    · rw [List.getElem?_append] at a1 a2
      rw [hlen] at a1
      split at a1
      · rename_i c
        rw [if_pos c] at a2
        obtain ⟨k1, k2⟩ := hent i e p a1 a2
        exact ⟨k1, k2.mono (fun b hb' => hset.2 b (fun e => hmb.2.1 (e ▸ hb'))) (fun _ z => z)⟩
      · rename_i c
        rw [if_neg c] at a2
        have hi : i - l.length = 0 := by
          rcases Nat.eq_zero_or_pos (i - l.length) with h | h
          · exact h
          · rw [List.getElem?_eq_none (by simp; omega)] at a1; cases a1
        rw [hi] at a1 a2
        simp at a1 a2
        subst a1 a2
        exact ⟨rfl, hF.mono (fun b hb' => hset.2 b (fun e => hmb.2.1 (e ▸ hb'))) (fun _ z => z)⟩
theorem simR_makeMap {i d tb : Nat} {dd st : Int} {o : Oper} {t : TypeId} (ho : ops[i]? = some o) (hop : o.op = .makeMap t none) (hd : o.dst = some d) (hg : gd M.N ops s.env o = some true) (hs : s.x = tbN tb dd st)
    (h : ∀ mb, SimR M J ops G idx k { s with env := upd s.env d (.raw (.map (some mb))), x := tbG tb mb dd st (.map none) [] }) : SimR M J ops G (i :: idx) k s := fun E hE r hr' fz β a w hR => by
  rw [wpOps_cons]
  unfold wpOp
  simp only [ho]
  rw [gd_ok hR (by rw [hE.n]; exact hg)]
  simp only [if_true]
  left
  have h0 : (tbN tb dd st).ok w fz := hs ▸ hR.xo.1
  have htb := hR.xo.2 tb (by rw [hs]; exact rfl)
  have hrun : (execOp a.eval o).run E.X.P w = .ok (.value (.map (some w.heap.size))) (w.alloc (.map #[] 0)) := by
    simp [execOp, hop, Instr.makeMap]
  unfold Oper.wp
  rw [hrun]
  simp only [Oper.upon]
  rw [hd]
  have hal := Go.MapKept.heap_alloc w (.map #[] 0)
  have hR1 : Rel E.X { s with x := tbG tb w.heap.size dd st (.map none) [] } fz β a (w.alloc (.map #[] 0)) := by
    refine hR.turn rfl rfl rfl (by simp) (fun b hb' _ => hal.2 b hb') ?_ (fun b hb' => ?_)
    · exact ⟨by omega, rfl, rfl, (hal.2 tb htb.1).trans h0, [], 0, hal.1, Go.MapKept.stamped_empty 0, rfl, fun i e p a1 => by simp at a1⟩
    · rcases hb' with rfl | rfl
      · exact .inl (by rw [hs]; exact rfl)
      · exact .inr ⟨Nat.le_refl _, by simp⟩
  exact h w.heap.size E hE r hr' _ _ _ _ (hR1.put (x := .raw (.map (some w.heap.size))) (.f _ _ (.raw _ rfl rfl)) (some d))
theorem simR_setMap {i tb mb : Nat} {dd st : Int} {l : Tab} {m : Value} {o : Oper} {t : TypeId} {p x : Operand} (ho : ops[i]? = some o) (hop : o.op = .store t p x) (hd : o.dst = none) (hg : gd M.N ops s.env o = some true) (hs : s.x = tbG tb mb dd st m l)
    (hp : ev M.N M.G s.env p = .raw (.pointer (some ⟨tb, 3, none⟩))) (hx : ev M.N M.G s.env x = .raw (.map (some mb))) (hk : kd M.P t = some (false, 1)) (h : SimR M J ops G idx k { s with x := tbO tb mb dd st l }) : SimR M J ops G (i :: idx) k s := by
  refine simR_turn ho hd hg (fun E hE fz β a w hR => ?_) h
  have e1 := ev_V hR p
  have e2 := ev_V hR x
  rw [hE.n, hE.g, hp] at e1
  rw [hE.n, hE.g, hx] at e2
  have e1 := raw_val e1
  have e2 := raw_val e2
  obtain ⟨h1, h2, h3, h4, h5⟩ : (tbG tb mb dd st m l).ok w fz := hs ▸ hR.xo.1
  obtain ⟨d', inf, hdd, hinf, hag, hsi⟩ := kd_some (P := E.X.P) (by rw [hE.p]; exact hk)
  have htb := hR.xo.2 tb (by rw [hs]; exact .inl rfl)
  have hmb := hR.xo.2 mb (by rw [hs]; exact .inr rfl)
  have hst := run_storeCells_at E.X.P tb 3 95 [Value.map (some mb)] 0 (tabC dd st m) w h4 (by simp [tabC]) (fun v hv => by simp at hv; subst hv; rfl)
  refine ⟨w.setRow tb ((tabC dd st m).toList.take 3 ++ [Value.map (some mb)] ++ (tabC dd st m).toList.drop 4).toArray, ?_, ?_⟩
  · simp only [execOp, hop, e1, e2]
    unfold Instr.storeAt Instr.sureAddr storeVar
    simp only [pure_bind]
    rw [Sem.run_bind, Sem.run_bind, run_sizeOf' hinf]
    have : ¬ (Value.map (some mb)).cells.size ≠ inf.size := by rw [hsi]; simp [Value.cells]
    simp only [Result.andThen_ok, this, if_false]
    have hst' : (storeCells ⟨tb, 3, none⟩ (Value.map (some mb)).cells.toList 0).run E.X.P w = .ok () (w.setRow tb ((tabC dd st m).toList.take 3 ++ [Value.map (some mb)] ++ (tabC dd st m).toList.drop 4).toArray) := by simpa [Value.cells] using hst
    exact (congrArg (fun r => Result.andThen r _) hst').trans rfl
  · refine hR.turn rfl rfl rfl (Nat.le_of_eq (size_setRow w _ _).symm) (fun b hb' hn' => setRow_other w _ _ _ (fun e => hn' (by rw [hs, e]; exact .inl rfl))) ?_ (fun b hb' => .inl (by rw [hs]; exact hb'))
    refine ⟨h1, rfl, rfl, ?_, h5.mono (fun b hb' => setRow_other w _ _ _ (fun e => ?_)) (fun _ z => z)⟩
    · rw [setRow_heap w tb _ _ 95 (0, 0) h4]; rfl
    · subst e
      rcases hb' with hb' | hb'
      · exact htb.2.1 hb'
      · exact h1 hb'
end
end Go.Proofs.YtpchdjdochkjpaaGreatDoor.Am
set_option linter.unusedVariables false
set_option linter.unusedSimpArgs false
namespace Go.Proofs.YtpchdjdochkjpaaGreatDoor.Am
open Go Go.RowKit
section
variable {X : Cx} {ops : Array Oper} {s s' : St} {o o' : Oper} {e e' : Eff}
theorem StepD.swapLW {a c f : Nat} {ty : TypeId} {tys : Array TypeId} (hI : Inh X s) (h : StepD X ops s o e) (h' : StepD X ops (s.app o.dst e) o' e') (hk : okOp X.P o = true) (hk' : okOp X.P o' = true) (hap : o.apart ops o' = true)
    (hl : o.op = .load ty (.tmp a)) (hs : o'.op = .call { callee := .value (.func f), args := #[.tmp c], argTypes := tys }) (hab : ∃ t i j t' i' j', s.env a = .optr t i j ∧ (s.env c = .dead ∨ s.env c = .optr t' i' j') ∧ t ≠ t') :
    StepD X ops s o' e' ∧ StepD X ops (s.app o'.dst e') o e ∧ (s.app o.dst e).app o'.dst e' = (s.app o'.dst e').app o.dst e := by
  obtain ⟨a1, a2, a3⟩ := Oper.apart_spec hap
  obtain ⟨t, i, j, t', i', j', ea, ec, hne⟩ := hab
  have k1 : kindOp X.P o.op ≤ 2 := by rw [hl]; exact Nat.le_succ 1
  have k2 : kindOp X.P o'.op ≤ 2 := by simp only [okOp, Bool.and_eq_true, decide_eq_true_eq] at hk'; exact hk'.1
  have v0 : e.new = [] ∧ e.wr = [] ∧ e.fz = [] := by
    cases h with
    | skip hg he => subst he; exact ⟨rfl, rfl, rfl⟩
    | act d hg hd h => rw [hl] at h; exact ⟨(vo_val h).1, (vo_val h).2.1, (vo_val h).2.2.1⟩
    | call hg h => obtain ⟨_, _, _, _, _, _, _, _, _, ho, _⟩ := h; rw [hl] at ho; cases ho
    | callW τ f args tys hg h hf hw hτ => rw [hl] at hf; cases hf
  have hc : c ∈ o'.looksAt ops := by
    simp [Oper.looksAt, hs, Op.operands, Call.operands]
  have ec1 : (s.app o.dst e).env c = s.env c := by rw [app_env, if_neg (fun hd => a1 c hd hc)]
  have w0 : ∀ u ∈ e'.wr.map (·.1), u = t' := by
    cases h' with
    | skip hg he => subst he; simp
    | act d hg hd h => rw [hs] at h; simp [Am.act] at h
    | call hg h =>
      obtain ⟨_, _, _, _, _, _, _, _, _, ho, _, _, _, _, _, _, _, _, _, _, _, rfl, _⟩ := h
      simp
    | callW τ f' args tys' hg h hf hw hτ =>
      obtain ⟨_, _, _, _, _, _, _, _, _, ho, _, _, _, _, _, _, _, _, _, _, _, rfl, _⟩ := h
      intro u hu
      obtain ⟨p, hp, rfl⟩ := List.mem_map.1 hu
      obtain ⟨x, hx, hh⟩ := hτ p.1 (List.of_mem_zip hp).1
      rw [hs] at hf
      injection hf with hf
      injection hf with h1 h2 h3
      subst h2
      obtain rfl : x = .tmp c := by simpa using hx
      simp only [ev, ec1] at hh
      cases hN : decide (c < X.N) with
      | false => rw [hN] at hh; cases hh
      | true =>
        rw [hN] at hh
        rcases ec with ec | ec <;> rw [ec] at hh <;> cases hh
        rfl
  have e1 : ∀ u, (s.app o.dst e).H u = s.H u := fun u => appH0 v0.1 (by rw [v0.2.1]; simp)
  have hx1 := (h.rd hk).2 (by simp [isRs, hl])
  have g1 : StepD X ops s o' e' := h'.loc k2 (fun u hu => by rw [app_env, if_neg (fun hd => a1 u hd hu)]) (fun _ x _ u _ => e1 u) (fun _ x _ u _ => appF0 v0.1 v0.2.2 u) (fun d _ n _ => by rw [e1]) (h.rd hk).1 (fun hr => hx1)
  have hs' := g1.supp hk'
  have hs1 := h.supp hk
  have ha : kindOp X.P o.op = 1 := by rw [hl]; rfl
  obtain ⟨fx, hf0, hfx⟩ := app_H o'.dst e'
  have Nw : ∀ t, inNew o'.dst e'.new.length t → s.H t = none := fun t ⟨d, hd, a, b⟩ => by
    have := hs'.nt d hd (t - tg d 0) (by omega)
    rwa [show tg d (t - tg d 0) = t by unfold tg at *; omega] at this
  refine ⟨g1, h.loc k1 (fun u hu => ?_) (fun _ x hx u hu => ?_) (fun h2 => by omega) (fun d hd n hn => ?_) (g1.rd hk').1.symm (fun hr => by simp [isRs, hl] at hr), app_comm hs1 hs' a2 (fun h2 => by omega) (fun _ => ⟨v0.2.1, v0.2.2⟩) (.inl (hs1.xs.resolve_left (by simp [isRs, hl])))⟩
  · rw [app_env, if_neg (fun hd => a3 u hd hu)]
  · have hin := hI.has hu
    rw [hl] at hx
    have : x = .tmp a := by simpa [Op.operands] using hx
    subst this
    have : u = t := by
      simp only [ev, ea] at hu
      cases hN : decide (a < X.N) with
      | false => rw [hN] at hu; cases hu
      | true => rw [hN] at hu; cases hu; rfl
    subst this
    refine ((hfx s u).2 ?_).symm
    rintro (hw | hn)
    · exact hne (w0 _ hw)
    · exact hin (Nw u hn)
  · have hn' : ¬ inNew o'.dst e'.new.length (tg d n) := fun ⟨d', hd', a, b⟩ => by
      have hn := hs'.n
      have : d' = d := by unfold tg at a b; omega
      exact a2 d hd (this ▸ hd')
    by_cases hw : tg d n ∈ e'.wr.map (·.1)
    · obtain ⟨p, hp, hpe⟩ := List.mem_map.1 hw
      have h1 := hs'.wt p hp
      rw [hpe] at h1
      have h2 := hf0 _ (.inl hw)
      rw [← (hfx s _).1 (.inl hw)] at h2
      cases q1 : s.H (tg d n) with
      | none => exact absurd q1 h1
      | some r =>
        cases q2 : (s.app o'.dst e').H (tg d n) with
        | none => exact absurd q2 h2
        | some r' => rfl
    · rw [(hfx s _).2 (fun h => h.elim hw hn')]
end
def exLW (ops : Array Oper) (a c : Nat) (o o' : Oper) : Bool := o.apart ops o' && match o.op, o'.op with
  | .load _ (.tmp x), .call q => x == a && (match q.callee with | .value (.func _) => (match q.args.toList with | [.tmp y] => y == c | _ => false) | _ => false)
  | _, _ => false
def keepsABC (ops : Array Oper) (a b c : Nat) : Bool := ops.all fun o => o.dst != some a && o.dst != some b && (o.dst != some c || (match o.op with | .move (.tmp x) => x == b && o.guard.isNone | _ => false))
theorem swap_lw (X : Cx) {ops : Array Oper} {a b c : Nat} (hb : b < X.N) (hk : keepsABC ops a b c = true) : SwapOK X ops (exLW ops a c) (fun s => ∃ t i j t' i' j', s.env a = .optr t i j ∧ s.env b = .optr t' i' j' ∧ (s.env c = .dead ∨ s.env c = .optr t' i' j') ∧ t ≠ t') := by
  refine ⟨fun {s i o e} ho hst ⟨t, i, j, t', i', j', h1, h2, h4, h3⟩ => ?_, fun {s o o' e e'} hi hI k1 k2 h h' hx => ?_⟩
  · have := Array.all_eq_true_iff_forall_mem.1 hk o (Array.mem_of_getElem? ho)
    simp only [Bool.and_eq_true, bne_iff_ne, ne_eq, Bool.or_eq_true] at this
    obtain ⟨⟨g1, g2⟩, g3⟩ := this
    refine ⟨t, i, j, t', i', j', by rw [app_env, if_neg g1, h1], by rw [app_env, if_neg g2, h2], ?_, h3⟩
    by_cases hc : o.dst = some c
    · right
      have g4 := g3.resolve_left (fun h => h hc)
      rw [app_env, if_pos hc]
      split at g4
      · rename_i x hop
        simp only [Bool.and_eq_true, beq_iff_eq, Option.isNone_iff_eq_none] at g4
        obtain ⟨rfl, g5⟩ := g4
        cases hst with
        | skip hg he => unfold gd at hg; rw [g5] at hg; cases hg
        | act d hg hd h =>
          rw [hop] at h
          simp only [act, ev] at h
          rw [show decide (x < X.N) = true from decide_eq_true hb] at h
          obtain rfl := Option.some.inj h
          exact h2
        | call hg h => obtain ⟨_, _, _, _, _, _, _, _, _, ho, _⟩ := h; rw [hop] at ho; cases ho
        | callW τ f args tys hg h hf hw hτ => rw [hop] at hf; cases hf
      · cases g4
    · rw [app_env, if_neg hc]; exact h4
  · unfold exLW at hx
    simp only [Bool.and_eq_true] at hx
    obtain ⟨hap, hx⟩ := hx
    obtain ⟨t, i, j, t', i', j', h1, h2, h4, h3⟩ := hi
    split at hx
    · rename_i ty x q e1 e2
      obtain ⟨cal, ⟨args⟩, tys⟩ := q
      simp only [Bool.and_eq_true, beq_iff_eq] at hx
      obtain ⟨rfl, hx⟩ := hx
      split at hx
      · split at hx
        · rename_i y
          obtain rfl : y = c := by simpa using hx
          exact h.swapLW hI h' k1 k2 hap e1 e2 ⟨t, i, j, t', i', j', h1, h4, h3⟩
        · cases hx
      · cases hx
    · cases hx
theorem sDw {R : Type} {M : Pm} {J : R → Out} {G : Option R} {k : List Item} {s : St} {ops : Array Oper} {id : Nat} {l : List Nat} (a b c : Nat) (hm : M.P.follows .mixedOrders = true) (hi : ∃ t i j t' i' j', s.env a = .optr t i j ∧ s.env b = .optr t' i' j' ∧ (s.env c = .dead ∨ s.env c = .optr t' i' j') ∧ t ≠ t') (hb : b < M.N := by exact Nat.le_of_ble_eq_true rfl) (hk : keepsABC ops a b c = true := by kernel_rfl) (hD : drawOKx M.P ops (exLW ops a c) = true := by kernel_rfl)
    (hr : List.range ops.size = l := by rfl) (h : SimB (some none) M J ops G l k s) : Sim M J G (.code (.region id ops true) :: k) s := fun E hE r hr' => by
  subst hr
  obtain ⟨s', h1, h2⟩ := h E hE r hr'
  exact aw_draw (swap_lw _ (by rw [hE.n]; exact hb) hk) hi (by rw [hE.p]; exact hm) (by rw [hE.p]; exact hD) h1 h2
def exLV (ops : Array Oper) (A : List Nat) (b : Nat) (o o' : Oper) : Bool := o.apart ops o' && o.guard.isNone && match o.op, o'.op with
  | .load _ (.tmp x), .store _ (.tmp y) _ => A.contains x && y == b
  | _, _ => false
def cpV (A : List Nat) (o : Oper) : Bool := o.guard.isNone && match o.op with
  | .move (.tmp x) => A.contains x
  | .nilCheck (.tmp x) => A.contains x
  | .fieldAddr _ (.tmp x) _ => A.contains x
  | _ => false
def keepsV (ops : Array Oper) (A : List Nat) (b : Nat) : Bool := ops.all fun o => o.dst != some b && (match o.dst with | some d => !A.contains d || cpV A o | none => true)
theorem swap_lv (X : Cx) {ops : Array Oper} {A : List Nat} {b : Nat} (t t' : Nat) (hA : A.all (fun a => decide (a < X.N)) = true) (hk : keepsV ops A b = true) (hne : t ≠ t') : SwapOK X ops (exLV ops A b) (fun s => (∀ a ∈ A, s.env a = .dead ∨ ∃ i j, s.env a = .optr t i j) ∧ ∃ i j, s.env b = .optr t' i j) := by
  refine ⟨fun {s i o e} ho hst ⟨h1, i', j', h2⟩ => ?_, fun {s o o' e e'} hi hI k1 k2 h h' hx => ?_⟩
  · have := Array.all_eq_true_iff_forall_mem.1 hk o (Array.mem_of_getElem? ho)
    simp only [Bool.and_eq_true, bne_iff_ne, ne_eq] at this
    obtain ⟨g1, g2⟩ := this
    refine ⟨fun a ha => ?_, i', j', by rw [app_env, if_neg g1, h2]⟩
    by_cases hc : o.dst = some a
    · rw [hc] at g2
      have hca : A.contains a = true := by simpa using ha
      simp only [hca, Bool.not_true, Bool.false_or] at g2
      rw [app_env, if_pos hc]
      unfold cpV at g2
      simp only [Bool.and_eq_true, Option.isNone_iff_eq_none] at g2
      obtain ⟨g5, g6⟩ := g2
      have ng : gd X.N ops s.env o = some true := by unfold gd; rw [g5]
      have ltN : ∀ x, A.contains x = true → decide (x < X.N) = true := fun x hx => List.all_eq_true.1 hA x (by simpa using hx)
      cases hst with
      | skip hg he => rw [ng] at hg; cases hg
      | act d hg hd h =>
        split at g6
        · rename_i x hop
          rw [hop] at h
          simp only [Am.act, ev, ltN x g6, cond_true] at h
          obtain rfl := Option.some.inj h
          exact h1 x (by simpa using g6)
        · rename_i x hop
          rw [hop] at h
          simp only [Am.act, ev, ltN x g6, cond_true] at h
          rcases h1 x (by simpa using g6) with hx | ⟨i, j, hx⟩
          · rw [hx] at h; simp [nlC, vo, vl] at h
          · rw [hx] at h; obtain rfl := Option.some.inj h; exact .inr ⟨i, j, rfl⟩
        · rename_i ty x f hop
          rw [hop] at h
          simp only [Am.act, ev, ltN x g6, cond_true] at h
          rcases h1 x (by simpa using g6) with hx | ⟨i, j, hx⟩
          · rw [hx] at h
            unfold ptrFd at h
            cases hq : fdS X.P ty f with
            | none => rw [hq] at h; simp [vo, vl] at h
            | some q => obtain ⟨q1, q2, q3⟩ := q; rw [hq] at h; simp [vo, vl] at h
          · rw [hx] at h
            unfold ptrFd at h
            cases hq : fdS X.P ty f with
            | none => rw [hq] at h; simp [vo, vl] at h
            | some q =>
              obtain ⟨q1, q2, q3⟩ := q
              rw [hq] at h
              simp only [need] at h
              cases hd : decide (0 < q3) with
              | false => rw [hd] at h; simp [vo, vl] at h
              | true => rw [hd] at h; obtain rfl := Option.some.inj h; exact .inr ⟨_, _, rfl⟩
        · cases g6
      | call hg h =>
        obtain ⟨_, _, _, _, _, _, _, _, _, ho, _⟩ := h
        rw [ho] at g6; cases g6
      | callW τ f args tys hg h hf hw hτ => rw [hf] at g6; cases g6
    · rw [app_env, if_neg hc]; exact h1 a ha
  · unfold exLV at hx
    simp only [Bool.and_eq_true, Option.isNone_iff_eq_none] at hx
    obtain ⟨⟨hap, hgn⟩, hx⟩ := hx
    obtain ⟨h1, i', j', h2⟩ := hi
    split at hx
    · rename_i ty x ty' y z e1 e2
      simp only [Bool.and_eq_true, beq_iff_eq] at hx
      obtain ⟨hx, rfl⟩ := hx
      have hxN : decide (x < X.N) = true := List.all_eq_true.1 hA x (by simpa using hx)
      rcases h1 x (by simpa using hx) with hd | ⟨i, j, hd⟩
      · exfalso
        cases h with
        | skip hg he => unfold gd at hg; rw [hgn] at hg; cases hg
        | act d hg hd' h =>
          rw [e1] at h
          simp only [Am.act, ev, hxN, cond_true, hd] at h
          unfold ldX ld at h
          cases hq : kd X.P ty <;> rw [hq] at h <;> simp [vo, vl] at h
        | call hg h => obtain ⟨_, _, _, _, _, _, _, _, _, ho, _⟩ := h; rw [e1] at ho; cases ho
        | callW τ f args tys hg h hf hw hτ => rw [e1] at hf; cases hf
      · exact h.swapLS hI h' k1 k2 hap e1 e2 ⟨t, i, j, t', i', j', hd, h2, hne⟩
    · cases hx
theorem sDv {R : Type} {M : Pm} {J : R → Out} {G : Option R} {k : List Item} {s : St} {ops : Array Oper} {id : Nat} {l : List Nat} (A : List Nat) (b t t' : Nat) (hm : M.P.follows .mixedOrders = true) (hi : ∀ a ∈ A, s.env a = .dead ∨ ∃ i j, s.env a = .optr t i j) (hb : ∃ i j, s.env b = .optr t' i j) (hne : t ≠ t' := by decide) (hA : A.all (fun a => decide (a < M.N)) = true := by rfl) (hk : keepsV ops A b = true := by kernel_rfl) (hD : drawOKx M.P ops (exLV ops A b) = true := by kernel_rfl)
    (hr : List.range ops.size = l := by rfl) (h : SimB (some none) M J ops G l k s) : Sim M J G (.code (.region id ops true) :: k) s := fun E hE r hr' => by
  subst hr
  obtain ⟨s', h1, h2⟩ := h E hE r hr'
  exact aw_draw (swap_lv _ t t' (by rw [hE.n]; exact hA) hk hne) ⟨hi, hb⟩ (by rw [hE.p]; exact hm) (by rw [hE.p]; exact hD) h1 h2
end Go.Proofs.YtpchdjdochkjpaaGreatDoor.Am
set_option linter.unusedVariables false
set_option linter.unusedSimpArgs false
namespace Go.Proofs.YtpchdjdochkjpaaGreatDoor.Am
open Go Go.RowKit Go.Proofs.YtpchdjdochkjpaaGreatDoor.P Go.Proofs.YtpchdjdochkjpaaGreatDoorW.PrintWords
theorem rws_some {i : Int} {r : Rw} (h : rws i = some r) : 0 ≤ i ∧ i < 17 ∧ (rowsT.drop (i.toNat * 10)).take 10 = rwC r := by
  unfold rws at h
  split at h
  · rename_i h0
    obtain ⟨n, rfl⟩ := Int.eq_ofNat_of_zero_le h0
    simp only [Int.toNat_natCast] at h ⊢
    have hn : n < 17 := (List.getElem?_eq_some_iff.1 h).1
    refine ⟨h0, by omega, ?_⟩
    have hc : n = 0 ∨ n = 1 ∨ n = 2 ∨ n = 3 ∨ n = 4 ∨ n = 5 ∨ n = 6 ∨ n = 7 ∨ n = 8 ∨ n = 9 ∨ n = 10 ∨ n = 11 ∨ n = 12 ∨ n = 13 ∨ n = 14 ∨ n = 15 ∨ n = 16 := by omega
    rcases hc with rfl | rfl | rfl | rfl | rfl | rfl | rfl | rfl | rfl | rfl | rfl | rfl | rfl | rfl | rfl | rfl | rfl <;> (cases h; rfl)
  · cases h
theorem pfs_some {i : Int} {r : Pf} (h : pfs i = some r) : 0 ≤ i ∧ i < 5 ∧ (pfxT.drop (i.toNat * 2)).take 2 = pfC r := by
  unfold pfs at h
  split at h
  · rename_i h0
    obtain ⟨n, rfl⟩ := Int.eq_ofNat_of_zero_le h0
    simp only [Int.toNat_natCast] at h ⊢
    have hn : n < 5 := (List.getElem?_eq_some_iff.1 h).1
    refine ⟨h0, by omega, ?_⟩
    have hc : n = 0 ∨ n = 1 ∨ n = 2 ∨ n = 3 ∨ n = 4 := by omega
    rcases hc with rfl | rfl | rfl | rfl | rfl <;> (cases h; rfl)
  · cases h
set_option maxRecDepth 10000 in
theorem rowsE : (∀ H, deepL H rowsT = some rowsT) ∧ (∀ ν, rowsT.map (mpS ν) = rowsT) ∧ rowsT.flatMap tagS = [] ∧ (∀ H, deepL H pfxT = some pfxT) ∧ (∀ ν, pfxT.map (mpS ν) = pfxT) ∧ pfxT.flatMap tagS = [] :=
  ⟨fun _ => rfl, fun _ => rfl, rfl, fun _ => rfl, fun _ => rfl, rfl⟩
theorem ldXR (P : Program) (s : St) (t : TypeId) (a : Addr) : ldX P s t (.raw (.pointer (some a))) = (match kd P t with | some (g, _) => need (!g) (match s.x.rd a with | some u => some (.raw u) | none => none) | none => none) := rfl
theorem rd3 : (∀ tb mb d st m l, (tbG tb mb d st m l).rd ⟨tb, 3, none⟩ = some m) := tbO_rd
theorem zv_F {P : Program} {t : TypeId} {n : Nat} {z : AV} (h : zv P t = z) (hs : sizedAs n z = true) : ∀ w fz, ∃ v, (zeroValue t).run P w = .ok v w ∧ F w fz z v := fun w fz => by
  subst h
  unfold zv at hs ⊢
  cases hi : P.info? t with
  | none => rw [hi] at hs; simp [sizedAs, AV.scalar] at hs
  | some i =>
    rw [hi] at hs
    simp only at hs ⊢
    cases hq : i.zero with
    | none => rw [hq] at hs; simp [sizedAs, AV.scalar] at hs
    | some z =>
      rw [hq] at hs
      exact ⟨z, run_zeroValue' hi hq w, (cav_F hs).1⟩
section
variable {R T : Type} {M : Pm} {J : R → Out} {G G1 G2 : Option R} {k : List Item} {env : Nat → AV} {H : Nat → Option Row} {fr : Nat → Bool} {ρ : Rs} {ops : Array Oper} {idx : List Nat} {i d : Nat} {op : Op} {ty : TypeId} {pos : String} {af : Array Edge}
theorem sOp (n : Nat) {tb : Nat} {l : Tab} {todo : List Item} {x : Array Oper} {b : Bool} (h : ∀ mb, Sim M J G (.code (.region n x b) :: todo) ⟨env, H, fr, tbG tb mb 1 0 (.map (some mb)) l⟩) : Sim M J G (.code (.region n x b) :: todo) ⟨env, H, fr, tbR tb (some l)⟩ := sim_open rfl h
theorem sCl {tb mb : Nat} {l : Tab} (h : Sim M J G (.code .ret :: k) ⟨env, H, fr, tbR tb (some l)⟩) : Sim M J G (.code .ret :: k) ⟨env, H, fr, tbG tb mb 1 0 (.map (some mb)) l⟩ := sim_close rfl h
theorem oEq {md : Option (Option Nat)} {s : St} (e : G1 = G2) (h : SimB md M J ops G2 idx k s) : SimB md M J ops G1 idx k s := by rw [e]; exact h
theorem oRw {t : TypeId} {x q : Operand} {n : Int} {kk : IntKind} {z : AV} {F : Rw → Option R} {md : Option (Option Nat)} (ho : ops[i]? = some ⟨some d, .index t x q, ty, pos, af, none⟩ := by rfl)
    (hx : ev M.N M.G env x = .agg rowsT := by first | rfl | (simp only [go_sem, *]; done) | (simp only [go_sem, *]; rfl)) (hq : ev M.N M.G env q = .int kk n := by first | rfl | (simp only [go_sem, *]; done) | (simp only [go_sem, *]; rfl)) (ha : arS M.P t = some (17, true, 10, z) := by simp only [go_sem, *]; rfl)
    (h : ∀ r, SimB md M J ops (F r) idx k ⟨upd env d (.agg (rwC r)), H, fr, ρ⟩) : SimB md M J ops ((rws n).bind F) (i :: idx) k ⟨env, H, fr, ρ⟩ := by
  cases hr : rws n with
  | none => exact simB_none
  | some r =>
    obtain ⟨h0, h1, h2⟩ := rws_some hr
    refine simB_act ho rfl rfl (e := { val := .agg (rwC r) }) ?_ (h r)
    have h4 : rowsT.length = 170 := rfl
    have h3 : Am.idx M.P t (ev M.N M.G env x) (ev M.N M.G env q) = some (.agg (rwC r)) := by
      rw [hx, hq]
      simp only [Am.idx, ha, part, cond_true, h4, h2]
      rw [show decide (0 ≤ n) = true from decide_eq_true h0, show decide (n < ((17 : Nat) : Int)) = true from decide_eq_true (by omega), show decide (n.toNat * 10 + 10 ≤ 170) = true from decide_eq_true (by omega)]
      rfl
    exact (congrArg vo h3).trans rfl
theorem oPf {t : TypeId} {x q : Operand} {n : Int} {kk : IntKind} {z : AV} {F : Pf → Option R} {md : Option (Option Nat)} (ho : ops[i]? = some ⟨some d, .index t x q, ty, pos, af, none⟩ := by rfl)
    (hx : ev M.N M.G env x = .agg pfxT := by first | rfl | (simp only [go_sem, *]; done) | (simp only [go_sem, *]; rfl)) (hq : ev M.N M.G env q = .int kk n := by first | rfl | (simp only [go_sem, *]; done) | (simp only [go_sem, *]; rfl)) (ha : arS M.P t = some (5, true, 2, z) := by simp only [go_sem, *]; rfl)
    (h : ∀ r, SimB md M J ops (F r) idx k ⟨upd env d (.agg (pfC r)), H, fr, ρ⟩) : SimB md M J ops ((pfs n).bind F) (i :: idx) k ⟨env, H, fr, ρ⟩ := by
  cases hr : pfs n with
  | none => exact simB_none
  | some r =>
    obtain ⟨h0, h1, h2⟩ := pfs_some hr
    refine simB_act ho rfl rfl (e := { val := .agg (pfC r) }) ?_ (h r)
    have h4 : pfxT.length = 10 := rfl
    have h3 : Am.idx M.P t (ev M.N M.G env x) (ev M.N M.G env q) = some (.agg (pfC r)) := by
      rw [hx, hq]
      simp only [Am.idx, ha, part, cond_true, h4, h2]
      rw [show decide (0 ≤ n) = true from decide_eq_true h0, show decide (n < ((5 : Nat) : Int)) = true from decide_eq_true (by omega), show decide (n.toNat * 2 + 2 ≤ 10) = true from decide_eq_true (by omega)]
      rfl
    exact (congrArg vo h3).trans rfl
theorem oLk {t : TypeId} {x q : Operand} {z : AV} {tb mb : Nat} {dd st : Int} {l : Tab} {n : ByteArray} {A : Un → Option R} {B : Option R} (kt et : TypeId) (ho : ops[i]? = some ⟨some d, .lookup t x q true, ty, pos, af, none⟩ := by rfl)
    (ht : M.P.underlying t = some (.map kt et) := by kernel_rfl) (hk : M.P.underlying kt = some .string := by kernel_rfl) (hx : ev M.N M.G env x = .raw (.map (some mb)) := by first | rfl | (simp only [go_sem, *]; done) | (simp only [go_sem, *]; rfl)) (hq : ev M.N M.G env q = .str n := by first | rfl | (simp only [go_sem, *]; done) | (simp only [go_sem, *]; rfl)) (hz : zv M.P et = z := by simp only [go_sem, *]; rfl) (hs : sizedAs 10 z = true := by rfl)
    (h1 : ∀ u, SimB none M J ops (A u) idx k ⟨upd env d (.tup [avU u, .bool true]), H, fr, tbG tb mb dd st (.map (some mb)) l⟩) (h2 : SimB none M J ops B idx k ⟨upd env d (.tup [z, .bool false]), H, fr, tbG tb mb dd st (.map (some mb)) l⟩) :
    SimB none M J ops (lkp (tget n l) A B) (i :: idx) k ⟨env, H, fr, tbG tb mb dd st (.map (some mb)) l⟩ := by
  refine simR_look (tb := tb) (mb := mb) (dd := dd) (st := st) (l := l) (z := z) ho rfl rfl rfl rfl ht hk hx hq (zv_F hz hs) (fun u hu => ?_) (fun hn => ?_)
  · rw [hu]; exact h1 u
  · rw [hn]; exact h2
theorem oMu {t : TypeId} {x q y : Operand} {tb mb : Nat} {dd st : Int} {l : Tab} {n : ByteArray} {u : Un} {F : Tab → Option R} (kt et : TypeId) (ho : ops[i]? = some ⟨none, .mapUpdate t x q y, ty, pos, af, none⟩ := by rfl)
    (ht : M.P.underlying t = some (.map kt et) := by kernel_rfl) (hk : M.P.underlying kt = some .string := by kernel_rfl) (hx : ev M.N M.G env x = .raw (.map (some mb)) := by first | rfl | (simp only [go_sem, *]; done) | (simp only [go_sem, *]; rfl)) (hq : ev M.N M.G env q = .str n := by first | rfl | (simp only [go_sem, *]; done) | (simp only [go_sem, *]; rfl)) (hz : ev M.N M.G env y = avU u := by first | (simp only [go_sem, *]; done) | (simp only [go_sem, *]; rfl))
    (h : SimB none M J ops (F (l ++ [(n, u)])) idx k ⟨env, H, fr, tbG tb mb dd st (.map (some mb)) (l ++ [(n, u)])⟩) : SimB none M J ops (mput l n u F) (i :: idx) k ⟨env, H, fr, tbG tb mb dd st (.map (some mb)) l⟩ := by
  unfold mput
  cases hn : tget n l with
  | some v => exact simB_none
  | none => exact simR_mapUp (tb := tb) (mb := mb) (dd := dd) (st := st) (l := l) ho rfl rfl rfl rfl ht hk hx hq hz hn h
theorem oMm {t : TypeId} {tb : Nat} {dd st : Int} (ho : ops[i]? = some ⟨some d, .makeMap t none, ty, pos, af, none⟩ := by rfl)
    (h : ∀ mb, SimB none M J ops G idx k ⟨upd env d (.raw (.map (some mb))), H, fr, tbG tb mb dd st (.map none) []⟩) : SimB none M J ops G (i :: idx) k ⟨env, H, fr, tbN tb dd st⟩ := simR_makeMap ho rfl rfl rfl rfl h
theorem oSm {t : TypeId} {x p : Operand} {tb mb : Nat} {dd st : Int} {l : Tab} {m : Value} (ho : ops[i]? = some ⟨none, .store t p x, ty, pos, af, none⟩ := by rfl)
    (hp : ev M.N M.G env p = .raw (.pointer (some ⟨tb, 3, none⟩)) := by first | rfl | (simp only [go_sem, *]; done) | (simp only [go_sem, *]; rfl)) (hx : ev M.N M.G env x = .raw (.map (some mb)) := by first | rfl | (simp only [go_sem, *]; done) | (simp only [go_sem, *]; rfl)) (hk : kd M.P t = some (false, 1) := by first | rfl | (simp only [go_sem, *]; done) | (simp only [go_sem, *]; rfl))
    (h : SimB none M J ops G idx k ⟨env, H, fr, tbG tb mb dd st (.map (some mb)) l⟩) : SimB none M J ops G (i :: idx) k ⟨env, H, fr, tbG tb mb dd st m l⟩ := simR_setMap ho rfl rfl rfl rfl hp hx hk h
theorem oXg {f : Nat} {args : Array Operand} {tys : Array TypeId} {avs cargs cargs' : List AV} {τ : List Nat} {ins : List Row} {res : T → AV} {outs : T → List Row} {A : Option T} {F : T → Option R} {lt : List Nat} {fr' : Nat → Bool} {X : T → AV} {H' : T → Nat → Option Row} {fr2 : T → Nat → Bool} {x : Rs} {x' : T → Rs} {md : Option (Option Nat)} {j g : Nat} {want b : Bool} (aw : List Nat)
    (hh : ∀ t, A = some t → HoldsX M.P M.G f ins cargs' [] x (res t) (outs t) (fun y => y = x' t)) (hx : x = ρ := by rfl) (hix : isX M.P f = true := by kernel_rfl) (hrd : ∀ t, (x' t).rd = ρ.rd := by intro t; rfl)
    (ho : ops[i]? = some ⟨some d, .call ⟨.value (.func f), args, tys⟩, ty, pos, af, some (j, want)⟩ := by rfl) (hd : (ops[j]?).bind (·.dst) = some g := by rfl) (hN : g < M.N := by exact Nat.le_of_ble_eq_true rfl) (he : env g = .bool b := by simp only [go_sem, *]; rfl) (hb : b = want := by first | rfl | (simp only [go_sem, *]; done) | (simp only [go_sem, *]; rfl)) (hav : args.toList.map (ev M.N M.G env) = avs := by simp only [go_sem, *]; rfl)
    (hτ0 : (aw.filterMap fun a => avs[a]?).flatMap tgA = τ := by simp only [tgA, List.filterMap_cons, List.filterMap_nil, go_sem, *]; rfl) (hw : isW M.P f = true := by kernel_rfl) (hτ : chkR ⟨env, H, fr, ρ⟩ τ ins := by first | (simp only [chkR, go_sem, *, and_true, true_and]; done) | fail) (hτn : τ.Nodup := by decide) (hag : aggFree τ avs = true := by rfl)
    (hc : convL τ H avs = some cargs := by simp only [convL, conv, List.idxOf_cons, List.contains_cons, List.contains_nil, beq_self_eq_true, Bool.or_false, Bool.true_or, go_sem, *]; rfl) (hle : leAL cargs cargs' := by first | exact leAL_refl _ | (simp only [leAL, leA, leL, leS, List.map_nil, List.map_cons, and_true, true_and, go_sem, *]; done) | fail)
    (hlt : lentT τ avs = lt := by simp only [lentT, go_sem, *, Bool.false_eq_true, List.filter_nil, List.filter_cons]; rfl) (htag : tagOk lt = true := by rfl) (hf : frz fr lt = fr' := by simp only [rwE]; rfl)
    (hl : ∀ t, (outs t).length - ins.length ≤ 16 := by intro t; first | (simp; done) | fail) (hn : ∀ t, frh H (tg d 0) ((outs t).drop ins.length) := by intro t; first | (simp only [frh, go_sem, *, and_true, true_and]; done) | fail)
    (hX : ∀ t, renV τ d (res t) = X t := by intro t; simp only [renV, renA, renS, renT, List.length_nil, go_sem, *, Nat.not_lt_zero]; rfl)
    (hH : ∀ t, newH (putW H (τ.zip (outs t))) (tg d 0) ((outs t).drop ins.length) = H' t := by intro t; simp only [List.zip_cons_cons, List.zip_nil_left, List.zip_nil_right, go_sem, *, Nat.reduceAdd, Nat.reduceMul]; rfl) (hF : ∀ t, newF fr' (tg d 0) ((outs t).drop ins.length) = fr2 t := by intro t; simp only [go_sem, *, Nat.reduceAdd, Nat.reduceMul]; rfl)
    (h : ∀ t, SimB md M J ops (F t) idx k ⟨upd env d (X t), H' t, fr2 t, x' t⟩) : SimB md M J ops (A.bind F) (i :: idx) k ⟨env, H, fr, ρ⟩ := by
  subst hav hlt hf hx
  refine simB_callX τ ins false (xs := fun t => some (x' t)) hh (.inr ⟨rfl, rfl, hix, fun t => ⟨rfl, hrd t⟩⟩) ho rfl rfl (.inr ⟨hw, tgs_has hτ0⟩) (by rw [gd_some rfl hd hN he, hb]; simp) hτ hτn hc hle hag (fun h => by cases h) (.inr htag) (fun t => ⟨hl t, fun j hj => frh_get (hn t) j (by simpa using hj)⟩) (fun t => ?_)
  have e : (⟨env, H, fr, x⟩ : St).app (some d) { val := renV τ d (res t), new := (outs t).drop ins.length, wr := τ.zip (outs t), fz := lentT τ (args.toList.map (ev M.N M.G env)), xs := some (x' t) } = ⟨upd env d (X t), H' t, fr2 t, x' t⟩ := by
    rw [← hX, ← hH, ← hF]; rfl
  have h' := h t
  rw [← e] at h'
  exact h'
theorem oNw {f : Nat} (ho : ops[i]? = some ⟨some d, .call ⟨.value (.func f), #[], #[]⟩, ty, pos, af, none⟩ := by rfl) (hcall : callable M.P f = true := by kernel_rfl)
    (hc : ∀ w, Calls M.P f #[] w fun e w' => e = .returned (.pointer (some ⟨w.heap.size, 0, none⟩)) ∧ w' = w.alloc (.cells (tabC 0 0 (.map none)) 95 (0, 0)))
    (h : ∀ tb, SimB none M J ops G idx k ⟨upd env d (.raw (.pointer (some ⟨tb, 0, none⟩))), H, fr, tbR tb none⟩) : SimB none M J ops G (i :: idx) k ⟨env, H, fr, Rs.no⟩ := fun E hE r hr fz β a w hR => by
  rw [wpOps_cons]
  unfold wpOp
  simp only [ho]
  rw [gd_ok hR (b := true) rfl]
  simp only [if_true]
  left
  have hrun : (execOp a.eval ⟨some d, .call ⟨.value (.func f), #[], #[]⟩, ty, pos, af, none⟩).run E.X.P w = .ok (.enter f #[]) w := by
    rw [hE.p]
    unfold callable at hcall
    cases hfn : M.P.funcs[f]? with
    | none => rw [hfn] at hcall; cases hcall
    | some fn =>
      rw [hfn] at hcall
      simp only [Bool.and_eq_true, Bool.not_eq_true'] at hcall
      obtain ⟨hb, hne⟩ := hcall
      have hne := beq_eq_false_iff_ne.1 hne
      cases hq : fn.body with
      | none => rw [hq] at hb; cases hb
      | some c => simp [execOp, resolve, Act.eval, Deferred.ofValue, invoke, callFunc, hfn, hq, hne]
  unfold Oper.wp
  rw [hrun]
  simp only [Oper.upon]
  have hcw := hc w
  rw [← hE.p] at hcw
  refine hcw.mono ?_
  rintro e w' ⟨rfl, rfl⟩
  have hal := Go.MapKept.heap_alloc w (.cells (tabC 0 0 (.map none)) 95 (0, 0))
  have hR1 : Rel E.X ⟨env, H, fr, tbR w.heap.size none⟩ fz β a (w.alloc (.cells (tabC 0 0 (.map none)) 95 (0, 0))) := by
    refine hR.turn (x' := tbR w.heap.size none) rfl rfl rfl (by simp) (fun b hb' _ => hal.2 b hb') hal.1 (fun b hb' => .inr ?_)
    rcases hb' with rfl | ⟨cur, e, f, h1, h2⟩
    · exact ⟨Nat.le_refl _, by simp⟩
    · rw [hal.1] at h1
      simp only [Option.some.injEq, Obj.cells.injEq] at h1
      obtain ⟨rfl, _, _⟩ := h1
      simp [tabC] at h2
  exact h w.heap.size E hE r hr _ _ _ _ (hR1.put (x := .raw (.pointer (some ⟨w.heap.size, 0, none⟩))) (.f _ _ (.raw _ rfl rfl)) (some d))
end
attribute [go_sem] rowsE ldXR rd3 rwC pfC
end Go.Proofs.YtpchdjdochkjpaaGreatDoor.Am
set_option linter.unusedVariables false
set_option linter.unusedSimpArgs false
set_option maxRecDepth 100000
set_option maxHeartbeats 1600000
namespace Go.Proofs.YtpchdjdochkjpaaGreatDoor.P
open Go
theorem disable (w : World) : (callFunc 184 #[]).run Tryz.prog w = .ok (.value (.tuple #[])) w := run_call_mark0 Tryz.func184 (by kernel_rfl) (by kernel_rfl) (by kernel_rfl) .disable (by kernel_rfl) w
theorem enable (w : World) : (callFunc 186 #[]).run Tryz.prog w = .ok (.value (.tuple #[])) w := run_call_mark0 Tryz.func186 (by kernel_rfl) (by kernel_rfl) (by kernel_rfl) .enable (by kernel_rfl) w
theorem acquire (a : Addr) (w : World) : (callFunc 187 #[.pointer (some a)]).run Tryz.prog w = .ok (.value (.tuple #[])) w := run_call_marked Tryz.func187 (by kernel_rfl) (by kernel_rfl) (by kernel_rfl) .acquire (by kernel_rfl) a w
theorem releaseMerge (a : Addr) (w : World) : (callFunc 189 #[.pointer (some a)]).run Tryz.prog w = .ok (.value (.tuple #[])) w := run_call_marked Tryz.func189 (by kernel_rfl) (by kernel_rfl) (by kernel_rfl) .releaseMerge (by kernel_rfl) a w
theorem store_deferred (a : Addr) (x : Value) (u : FrameMode) (w : World) (hc : w.cell? a = some x) (hz : w.frozen? a = false) :
    CallsD Tryz.prog 135 #[.pointer (some a), .bool true] u w fun e u' w' => u' = u ∧ (e = .returned (.tuple #[]) ∧ w' = w.drew.setCell a (.int .u32 1)) := by
  have hc' : w.drew.cell? a = some x := by go_simp
  have hz' : w.drew.frozen? a = false := by go_simp
  have hst := run_call_store (P := Tryz.prog) Tryz.func167 (by kernel_rfl) (by kernel_rfl) (by kernel_rfl) (by kernel_rfl) (k := .u32) (y := 1) hc' hz'
  go_enter_d Tryz.func135, Tryz.ntmps135
  go_wp2
  go_region_calls
  all_goals (go_end0; exact ⟨rfl, rfl⟩)
theorem unlock_in (a : Addr) (w : World) (hc : w.cell? a = some (.int .i32 1)) (hz : w.frozen? a = false) :
    Calls Tryz.prog 166 #[.pointer (some a)] w fun e w' => e = .returned (.tuple #[]) ∧ w' = w.setCell a (.int .i32 0) := by
  have hd := disable
  have he := enable
  have hr := releaseMerge
  have hadd := run_call_add (P := Tryz.prog) Tryz.func190 (by kernel_rfl) (by kernel_rfl) (by kernel_rfl) .i32 (by kernel_rfl) (y := -1) (s := 0) hc hz (by simp [go_sem]; rfl)
  have hcv := run_convert_to_unsafe (P := Tryz.prog) (src := 212) (dst := 216) Tryz.underlying212 Tryz.underlying216 (by kernel_rfl) hc
  go_enter Tryz.func166, Tryz.ntmps166
  go_wp2
  go_end0
  exact ⟨rfl, rfl⟩
theorem unlock_deferred (a : Addr) (u : FrameMode) (w : World) (hc : w.cell? a = some (.int .i32 1)) (hz : w.frozen? a = false) :
    CallsD Tryz.prog 134 #[.pointer (some a)] u w fun e u' w' => u' = u ∧ (e = .returned (.tuple #[]) ∧ w' = w.setCell a (.int .i32 0)) := by
  go_enter_d Tryz.func134, Tryz.ntmps134
  go_wp2_with (go_at_call 166; refine (unlock_in a _ hc hz).mono ?_; rintro e w' ⟨rfl, rfl⟩)
  go_end0
  exact ⟨rfl, rfl⟩
theorem lock_in (a : Addr) (w : World) (hc : w.cell? a = some (.int .i32 0)) (hz : w.frozen? a = false) :
    Calls Tryz.prog 165 #[.pointer (some a)] w fun e w' => e = .returned (.tuple #[]) ∧ w' = w.setCell a (.int .i32 1) := by
  have hd := disable
  have he := enable
  have ha := acquire
  have hcas := run_call_cas_hit (P := Tryz.prog) Tryz.func185 (by kernel_rfl) (by kernel_rfl) (by kernel_rfl) .i32 (by kernel_rfl) (y := 1) hc hz
  have hc' : (w.setCell a (.int .i32 1)).cell? a = some (.int .i32 1) := World.cell?_setCell_same w a _ hc
  have hcv := run_convert_to_unsafe (P := Tryz.prog) (src := 212) (dst := 216) Tryz.underlying212 Tryz.underlying216 (by kernel_rfl) hc'
  go_enter Tryz.func165, Tryz.ntmps165
  go_wp2
  first | go_end0 | (simp only [Exit.inBlock, Exit.then]; refine bodyPost_ret (results_none rfl _ _ _) rfl ?_) | refine bodyPost_ret (results_none rfl _ _ _) rfl ?_
  all_goals exact ⟨rfl, rfl⟩
theorem lock_free (a : Addr) (w : World) (hc : w.cell? a = some (.int .i32 0)) (hz : w.frozen? a = false) :
    Calls Tryz.prog 133 #[.pointer (some a)] w fun e w' => e = .returned (.tuple #[]) ∧ w' = w.setCell a (.int .i32 1) := by
  go_enter Tryz.func133, Tryz.ntmps133
  go_wp2_with (go_at_call 165; refine (lock_in a _ hc hz).mono ?_; rintro e w' ⟨rfl, rfl⟩)
  go_end0
  exact ⟨rfl, rfl⟩
end Go.Proofs.YtpchdjdochkjpaaGreatDoor.P
set_option linter.unusedVariables false
set_option linter.unusedSimpArgs false
set_option maxRecDepth 100000
set_option maxHeartbeats 1600000
namespace Go.Proofs.YtpchdjdochkjpaaGreatDoor.P
open Go Go.RowKit Go.Proofs.YtpchdjdochkjpaaGreatDoor.Am
abbrev ptT (tb : Nat) : Value := .pointer (some ⟨tb, 0, none⟩)
abbrev fnT (tb : Nat) : Value := .func (.func 72) #[ptT tb] #[]
theorem load_done (a : Addr) (x : Int) (w : World) (h : w.cell? a = some (.int .u32 x)) : Calls Tryz.prog 103 #[.pointer (some a)] w fun e w' => e = .returned (.bool (x != 0)) ∧ w' = w := by
  have hl := run_call_load (P := Tryz.prog) Tryz.func132 (by kernel_rfl) (by kernel_rfl) (by kernel_rfl) .u32 (by kernel_rfl) h
  go_enter Tryz.func103, Tryz.ntmps103
  go_wp2
  first | go_end0 | go_ret | (simp only [Exit.inBlock, Exit.then]; refine bodyPost_ret (results_none rfl _ _ _) rfl ?_)
  all_goals exact ⟨rfl, rfl⟩
theorem slow_first (tb : Nat) (Q : World → Prop) (w : World) (h0 : w.cell? ⟨tb, 0, none⟩ = some (.int .u32 0)) (h1 : w.cell? ⟨tb, 1, none⟩ = some (.int .i32 0)) (f1 : w.frozen? ⟨tb, 1, none⟩ = false)
    (hf : Calls Tryz.prog 72 #[ptT tb] (w.setCell ⟨tb, 1, none⟩ (.int .i32 1)) fun e w' => e = .returned (.tuple #[]) ∧ Q w')
    (q0 : ∀ w, Q w → w.cell? ⟨tb, 0, none⟩ = some (.int .u32 0)) (q1 : ∀ w, Q w → w.cell? ⟨tb, 1, none⟩ = some (.int .i32 1)) (z0 : ∀ w, Q w → w.frozen? ⟨tb, 0, none⟩ = false) (z1 : ∀ w, Q w → w.frozen? ⟨tb, 1, none⟩ = false) :
    Calls Tryz.prog 104 #[ptT tb, fnT tb] w fun e w' => e = .returned (.tuple #[]) ∧ ∃ w1, Q w1 ∧ w' = (w1.drew.setCell ⟨tb, 0, none⟩ (.int .u32 1)).setCell ⟨tb, 1, none⟩ (.int .i32 0) := by
  have hl := run_call_load (P := Tryz.prog) Tryz.func132 (by kernel_rfl) (by kernel_rfl) (by kernel_rfl) .u32 (by kernel_rfl) (w := w.setCell ⟨tb, 1, none⟩ (.int .i32 1)) (a := ⟨tb, 0, none⟩) (x := 0) ((World.cell?_setCell_other _ ⟨tb, 1, none⟩ ⟨tb, 0, none⟩ _ (by simp)).trans h0)
  have hnot : ∀ (x : Bool) (w : World), (Op.unary .not (.bool x)).run Tryz.prog w = .ok (.bool (!x)) w := fun _ _ => rfl
  go_enter_defers Tryz.func104, Tryz.ntmps104
  go_wp2_with (first | (go_at_call 133; refine (lock_free ⟨tb, 1, none⟩ _ h1 f1).mono ?_; rintro e w' ⟨rfl, rfl⟩) | (go_at_call 103; refine (load_done ⟨tb, 0, none⟩ 0 _ ((World.cell?_setCell_other _ ⟨tb, 1, none⟩ ⟨tb, 0, none⟩ _ (by simp)).trans h0)).mono ?_; rintro e w' ⟨rfl, rfl⟩) | (go_at_call 72; refine hf.mono ?_; rintro e w' ⟨rfl, hq⟩))
  refine leaves_cons (f := 135) (args := #[ptT tb, .bool true]) (by simp) (by simp [go_sem]) ?_
  refine (store_deferred ⟨tb, 0, none⟩ (.int .u32 0) .returning _ (q0 _ hq) (z0 _ hq)).mono ?_
  rintro e u' w'' ⟨rfl, rfl, rfl⟩
  refine leaves_cons (f := 134) (args := #[.pointer (some ⟨tb, 1, none⟩)]) (by simp [settle]) (by simp [go_sem]) ?_
  refine (unlock_deferred ⟨tb, 1, none⟩ _ _ ?_ (by simp [z1 _ hq])).mono ?_
  · refine (World.cell?_setCell_other _ ⟨tb, 0, none⟩ ⟨tb, 1, none⟩ _ (by simp)).trans ?_
    rw [World.cell?_drew]
    exact q1 _ hq
  rintro e u' w'' ⟨rfl, rfl, rfl⟩
  simp [Leaves, settle, results, Tryz.results104]
  exact ⟨_, hq, rfl⟩
theorem do_first (tb : Nat) (Q : World → Prop) (w : World) (h0 : w.cell? ⟨tb, 0, none⟩ = some (.int .u32 0)) (h1 : w.cell? ⟨tb, 1, none⟩ = some (.int .i32 0)) (f1 : w.frozen? ⟨tb, 1, none⟩ = false)
    (hf : Calls Tryz.prog 72 #[ptT tb] (w.setCell ⟨tb, 1, none⟩ (.int .i32 1)) fun e w' => e = .returned (.tuple #[]) ∧ Q w')
    (q0 : ∀ w, Q w → w.cell? ⟨tb, 0, none⟩ = some (.int .u32 0)) (q1 : ∀ w, Q w → w.cell? ⟨tb, 1, none⟩ = some (.int .i32 1)) (z0 : ∀ w, Q w → w.frozen? ⟨tb, 0, none⟩ = false) (z1 : ∀ w, Q w → w.frozen? ⟨tb, 1, none⟩ = false) :
    Calls Tryz.prog 71 #[ptT tb, fnT tb] w fun e w' => e = .returned (.tuple #[]) ∧ ∃ w1, Q w1 ∧ w' = (w1.drew.setCell ⟨tb, 0, none⟩ (.int .u32 1)).setCell ⟨tb, 1, none⟩ (.int .i32 0) := by
  have hnot : ∀ (x : Bool) (w : World), (Op.unary .not (.bool x)).run Tryz.prog w = .ok (.bool (!x)) w := fun _ _ => rfl
  go_enter Tryz.func71, Tryz.ntmps71
  go_wp2_with (first | (go_at_call 103; refine (load_done ⟨tb, 0, none⟩ 0 _ h0).mono ?_; rintro e w' ⟨rfl, rfl⟩) | (go_at_call 104; refine (slow_first tb Q _ h0 h1 f1 hf q0 q1 z0 z1).mono ?_; rintro e w' ⟨rfl, hq⟩))
  go_end0
  exact ⟨rfl, hq⟩
theorem do_again (tb : Nat) (fv : Value) (w : World) (h0 : w.cell? ⟨tb, 0, none⟩ = some (.int .u32 1)) : Calls Tryz.prog 71 #[ptT tb, fv] w fun e w' => e = .returned (.tuple #[]) ∧ w' = w := by
  have hnot : ∀ (x : Bool) (w : World), (Op.unary .not (.bool x)).run Tryz.prog w = .ok (.bool (!x)) w := fun _ _ => rfl
  go_enter Tryz.func71, Tryz.ntmps71
  go_wp2_with (go_at_call 103; refine (load_done ⟨tb, 0, none⟩ 1 _ h0).mono ?_; rintro e w' ⟨rfl, rfl⟩)
  go_end0
  exact ⟨rfl, rfl⟩
theorem all_calls (tb : Nat) (Q : World → Prop) (w : World) (hd : ∀ fv, fv = fnT tb → Calls Tryz.prog 71 #[ptT tb, fv] w fun e w' => e = .returned (.tuple #[]) ∧ Q w') : Calls Tryz.prog 39 #[ptT tb] w fun e w' => e = .returned (.bool true) ∧ Q w' := by
  have hmf : ∀ (fn : Fn) (first cap : Array Value) (w : World), (Instr.makeFunc fn first cap).run Tryz.prog w = .ok (.func fn first cap) w := fun _ _ _ _ => rfl
  go_enter Tryz.func39, Tryz.ntmps39
  go_wp2_with (go_at_call 71; refine (hd _ rfl).mono ?_; rintro e w' ⟨rfl, hq⟩)
  go_ret
  exact ⟨rfl, hq⟩
theorem setCell_row {w : World} {b : Nat} {cur : Array Value} {e : TypeId} (o : Nat) (v : Value) (h : w.heap[b]? = some (.cells cur e (0, 0))) : (w.setCell ⟨b, o, none⟩ v).heap[b]? = some (.cells (cur.setIfInBounds o v) e (0, 0)) := by
  have hlt := lt_of_block h
  have h' : w.heap[b] = .cells cur e (0, 0) := by simpa [Array.getElem?_eq_getElem hlt] using h
  show (w.heap.modify b _)[b]? = _
  rw [Array.getElem?_eq_getElem (by simpa using hlt), Array.getElem_modify_self, h']
  rfl
theorem frozen_row {w : World} {b : Nat} {cur : Array Value} {e : TypeId} (o : Nat) (h : w.heap[b]? = some (.cells cur e (0, 0))) : w.frozen? ⟨b, o, none⟩ = false := by simp [World.frozen?, h]
theorem all_first (tb : Nat) (r : Tab) (hf : HoldsX Tryz.prog (G0 0) 72 [] [.raw (ptT tb)] [] (tbN tb 0 1) (.tup []) [] (fun y => ∃ mb, y = tbG tb mb 0 1 (.map (some mb)) r)) :
    HoldsX Tryz.prog (G0 0) 39 [] [.raw (ptT tb)] [] (tbR tb none) (.bool true) [] (fun y => y = tbR tb (some r)) := by
  refine ⟨by kernel_rfl, fun w fz β vs hG hfz hr hi hb hP _ hx => ?_⟩
  obtain ⟨v0, us, rfl, h0, hP⟩ := hP.head
  obtain rfl := hP.none
  obtain rfl := raw_val h0
  obtain ⟨hok, hbl⟩ := hx
  have hok : w.heap[tb]? = some (.cells (tabC 0 0 (.map none)) 95 (0, 0)) := hok
  obtain ⟨ht1, ht2, _⟩ := hbl tb (.inl rfl)
  obtain ⟨c0, c1, _, _⟩ := cell_tab hok
  -- the filling, the lock held
  have hrow : (w.setCell ⟨tb, 1, none⟩ (.int .i32 1)).heap[tb]? = some (.cells (tabC 0 1 (.map none)) 95 (0, 0)) := setCell_row 1 _ hok
  have hoth : ∀ b, b ≠ tb → (w.setCell ⟨tb, 1, none⟩ (.int .i32 1)).heap[b]? = w.heap[b]? := fun b hne => Below.heap_setCell w ⟨tb, 1, none⟩ _ b hne
  have hsz : (w.setCell ⟨tb, 1, none⟩ (.int .i32 1)).heap.size = w.heap.size := by simp [World.setCell]
  have hne : ∀ b, fz b → b ≠ tb := fun b hb' e => ht2 (e ▸ hb')
  have hc := hf.2 (w.setCell ⟨tb, 1, none⟩ (.int .i32 1)) fz β [ptT tb] (fun g hg => (hG g hg).mono (fun b hb' => hoth b (hne b hb')) (fun _ z => z)) (fun b hb' => by rw [hsz]; exact hfz b hb') (fun t r h => by simp at h) (fun t t' o o' ht => absurd ht (Nat.not_lt_zero _)) (fun t o ht => absurd ht (Nat.not_lt_zero _))
    ⟨rfl, fun i y u h1 h2 => by
      rcases i with _ | i
      · cases h1; cases h2; exact .f _ _ (.raw _ rfl rfl)
      · simp at h1⟩ (fun y hy => by simp at hy) ⟨hrow, fun b hb' => by
      obtain rfl : b = tb := hb'
      exact ⟨by rw [hsz]; exact ht1, ht2, fun t o ht => absurd ht (Nat.not_lt_zero _)⟩⟩
  let Q : World → Prop := fun w' => ∃ (β' : Nat → Option Own) (fz' : Nat → Prop), Bel (fun b => b = tb) (w.setCell ⟨tb, 1, none⟩ (.int .i32 1)) w' ∧ (∀ b, fz b → fz' b) ∧ (∀ b, fz' b → b < w'.heap.size ∧ (b < w.heap.size → fz b)) ∧
    ∃ mb, (tbG tb mb 0 1 (.map (some mb)) r).ok w' fz' ∧ ∀ b, (tbG tb mb 0 1 (.map (some mb)) r).bl w' b → b < w'.heap.size ∧ ¬ fz' b ∧ (b = tb ∨ w.heap.size ≤ b)
  have hQ : ∀ w', Q w' → ∃ m, w'.heap[tb]? = some (.cells (tabC 0 1 m) 95 (0, 0)) := fun w' ⟨_, _, _, _, _, mb, h, _⟩ => ⟨_, h.2.2.2.1⟩
  have hall := all_calls tb (fun w' => ∃ w1, Q w1 ∧ w' = (w1.drew.setCell ⟨tb, 0, none⟩ (.int .u32 1)).setCell ⟨tb, 1, none⟩ (.int .i32 0)) w (fun fv hfv => by
    subst hfv
    refine do_first tb Q w c0 c1 (frozen_row 1 hok) (hc.mono ?_) (fun w' h => ?_) (fun w' h => ?_) (fun w' h => ?_) (fun w' h => ?_)
    · rintro e w' ⟨v, β', fz', rfl, k1, k2, k3, _, _, k4, _, _, _, x', ⟨mb, rfl⟩, k5, k6⟩
      have hv : v = .tuple #[] := by
        cases k4 with
        | f _ _ hF => cases hF
        | tup cs vs hl _ => cases List.eq_nil_of_length_eq_zero hl; rfl
      subst hv
      refine ⟨rfl, β', fz', k1.wr (fun b hb' => ?_), k2, fun b hb' => ?_, mb, k5, fun b hb' => ?_⟩
      · rcases hb' with ⟨t, o, ht, _⟩ | hb'
        · exact absurd ht (Nat.not_lt_zero _)
        · exact hb'
      · have := k3 b hb'; rw [hsz] at this; exact this
      · have := k6 b hb'
        rw [hsz] at this
        exact ⟨this.1, this.2.1, this.2.2.1⟩
    · obtain ⟨m, hm⟩ := hQ w' h; exact (cell_tab hm).1
    · obtain ⟨m, hm⟩ := hQ w' h; exact (cell_tab hm).2.1
    · obtain ⟨m, hm⟩ := hQ w' h; exact frozen_row 0 hm
    · obtain ⟨m, hm⟩ := hQ w' h; exact frozen_row 1 hm)
  refine hall.mono ?_
  rintro e w' ⟨rfl, w1, ⟨β', fz', k1, k2, k3, mb, k5, k6⟩, rfl⟩
  obtain ⟨g1, g2, g3, g4, g5⟩ := k5
  have hw1 : (w1.drew.setCell ⟨tb, 0, none⟩ (.int .u32 1)).heap[tb]? = some (.cells (tabC 1 1 (.map (some mb))) 95 (0, 0)) := setCell_row 0 _ (show w1.drew.heap[tb]? = _ from g4)
  have hw2 : ((w1.drew.setCell ⟨tb, 0, none⟩ (.int .u32 1)).setCell ⟨tb, 1, none⟩ (.int .i32 0)).heap[tb]? = some (.cells (tabC 1 0 (.map (some mb))) 95 (0, 0)) := setCell_row 1 _ hw1
  have hw3 : ∀ b, b ≠ tb → ((w1.drew.setCell ⟨tb, 0, none⟩ (.int .u32 1)).setCell ⟨tb, 1, none⟩ (.int .i32 0)).heap[b]? = w1.heap[b]? := fun b hne => (Below.heap_setCell _ ⟨tb, 1, none⟩ _ b hne).trans (Below.heap_setCell _ ⟨tb, 0, none⟩ _ b hne)
  have hs3 : ((w1.drew.setCell ⟨tb, 0, none⟩ (.int .u32 1)).setCell ⟨tb, 1, none⟩ (.int .i32 0)).heap.size = w1.heap.size := by
    have hd : w1.drew.heap = w1.heap := rfl
    simp only [World.setCell, Array.size_modify, hd]
  have hfz1 : ¬ fz' tb := (k6 tb (.inl rfl)).2.1
  refine ⟨.bool true, fun _ => none, fz', rfl, ⟨k1.os, k1.tape, k1.output, ?_, fun b hb1 hb2 => ?_⟩, k2, fun b hb' => ?_, Nat.le_refl _, fun t ht => absurd ht (Nat.not_lt_zero _), .f _ _ (.bool _), fun t r h => by simp at h, fun t t' o o' ht => absurd ht (Nat.not_lt_zero _), fun t o ht => absurd ht (Nat.not_lt_zero _), _, rfl, ⟨mb, g1, rfl, rfl, hw2, g5.mono (fun b hb' => hw3 b (fun e => ?_)) (fun _ z => z)⟩, fun b hb' => ?_⟩
  · rw [hs3, ← hsz]; exact k1.size
  · have hne' : b ≠ tb := fun e => hb2 (.inr (.inl e))
    rw [hw3 b hne', k1.block b (by rw [hsz]; exact hb1) hne', hoth b hne']
  · rw [hs3]; exact k3 b hb'
  · subst e
    rcases hb' with hb' | hb'
    · exact hfz1 hb'
    · exact g1 hb'
  · have hb2 : b = tb ∨ b = mb := by
      rcases hb' with hb' | ⟨cur, e, f, h1, h2⟩
      · exact .inl hb'
      · rw [hw2] at h1
        simp only [Option.some.injEq, Obj.cells.injEq] at h1
        obtain ⟨rfl, _, _⟩ := h1
        simp [tabC] at h2
        exact .inr h2.symm
    obtain ⟨j1, j2, j3⟩ := k6 b hb2
    refine ⟨by rw [hs3]; exact j1, j2, ?_, fun t o ht => absurd ht (Nat.not_lt_zero _)⟩
    rcases j3 with rfl | j3
    · exact .inl (.inl rfl)
    · exact .inr j3
theorem all_again (tb : Nat) (l : Tab) : HoldsX Tryz.prog (G0 0) 39 [] [.raw (ptT tb)] [] (tbR tb (some l)) (.bool true) [] (fun y => y = tbR tb (some l)) := by
  refine ⟨by kernel_rfl, fun w fz β vs hG hfz hr hi hb hP _ hx => ?_⟩
  obtain ⟨v0, us, rfl, h0, hP⟩ := hP.head
  obtain rfl := hP.none
  obtain rfl := raw_val h0
  obtain ⟨⟨mb, hok⟩, hbl⟩ := hx
  obtain ⟨c0, _, _, _⟩ := cell_tab hok.2.2.2.1
  refine (all_calls tb (fun w' => w' = w) w (fun fv hfv => do_again tb fv w c0)).mono ?_
  rintro e w' ⟨rfl, rfl⟩
  exact ⟨.bool true, fun _ => none, fz, rfl, .refl _ _, fun _ z => z, fun b hb' => ⟨hfz b hb', fun _ => hb'⟩, Nat.le_refl _, fun t ht => absurd ht (Nat.not_lt_zero _), .f _ _ (.bool _), fun t r h => by simp at h, fun t t' o o' ht => absurd ht (Nat.not_lt_zero _), fun t o ht => absurd ht (Nat.not_lt_zero _), _, rfl, ⟨mb, hok⟩,
    fun b hb' => ⟨(hbl b hb').1, (hbl b hb').2.1, .inl hb', fun t o ht => absurd ht (Nat.not_lt_zero _)⟩⟩
theorem new_calls (w : World) : Calls Tryz.prog 8 #[] w fun e w' => e = .returned (.pointer (some ⟨w.heap.size, 0, none⟩)) ∧ w' = w.alloc (.cells (tabC 0 0 (.map none)) 95 (0, 0)) := by
  go_enter Tryz.func8, Tryz.ntmps8
  go_wp2
  go_ret
  exact ⟨rfl, rfl⟩
end Go.Proofs.YtpchdjdochkjpaaGreatDoor.P
namespace Go.Proofs
open Go.Shelf
def Tryz.keys55_ren : Go.Shelf.Ren := ⟨fun | 7 => 55 | 10 => 89 | n => n, fun | 23 => 93 | 26 => 9 | 3 => 37 | 28 => 118 | 0 => 0 | 27 => 117 | 33 => 48 | 4 => 4 | n => n, fun | n => n⟩
theorem Tryz.keys55 : Go.Proofs.SlLaysZ.n7 Tryz.prog Tryz.keys55_ren := {
  mixed := by kernel_rfl
  f7 := ⟨Tryz.f55.name, by decide, Tryz.func55.trans (congrArg some (by kernel_rfl))⟩
  f10 := ⟨Tryz.f89.name, by decide, Tryz.func89.trans (congrArg some (by kernel_rfl))⟩
  t0 := Tryz.underlying0
  a0 := Tryz.isAgg0
  z0 := Tryz.sizeOf0
  v0 := Tryz.zeroValue0
  t4 := Tryz.underlying4
  a4 := Tryz.isAgg4
  z4 := Tryz.sizeOf4
  v4 := Tryz.zeroValue4
  t23 := Tryz.underlying93
  a23 := Tryz.isAgg93
  z23 := Tryz.sizeOf93
  v23 := Tryz.zeroValue93
  t26 := Tryz.underlying9
  a26 := Tryz.isAgg9
  z26 := Tryz.sizeOf9
  v26 := Tryz.zeroValue9
  t27 := Tryz.underlying117
  a27 := Tryz.isAgg117
  z27 := Tryz.sizeOf117
  v27 := Tryz.zeroValue117
  t28 := Tryz.underlying118
  a28 := Tryz.isAgg118
  z28 := Tryz.sizeOf118
  v28 := Tryz.zeroValue118
  t33 := Tryz.underlying48
  a33 := Tryz.isAgg48
  z33 := Tryz.sizeOf48
  v33 := Tryz.zeroValue48 }
def Tryz.sorted54_ren : Go.Shelf.Ren := ⟨fun | 6 => 54 | 8 => 87 | 9 => 88 | 11 => 116 | 13 => 118 | 12 => 117 | 23 => 150 | 24 => 151 | 14 => 141 | 15 => 142 | 16 => 143 | 17 => 144 | 18 => 145 | 19 => 146 | 20 => 147 | 21 => 148 | 22 => 149 | 25 => 175 | 26 => 176 | 27 => 177 | 28 => 178 | 29 => 179 | 30 => 180 | 31 => 194 | n => n, fun | 26 => 9 | 28 => 118 | 24 => 63 | 0 => 0 | 3 => 3 | 37 => 147 | 48 => 84 | 50 => 130 | 4 => 4 | 40 => 185 | 39 => 184 | 45 => 189 | 5 => 5 | 9 => 9 | 51 => 203 | 55 => 207 | 57 => 220 | 58 => 221 | 33 => 48 | n => n, fun | n => n⟩
theorem Tryz.sorted54 : Go.Proofs.SlLaysZ.n6 Tryz.prog Tryz.sorted54_ren := {
  mixed := by kernel_rfl
  f6 := ⟨Tryz.f54.name, by decide, Tryz.func54.trans (congrArg some (by kernel_rfl))⟩
  f8 := ⟨Tryz.f87.name, by decide, Tryz.func87.trans (congrArg some (by kernel_rfl))⟩
  f11 := ⟨Tryz.f116.name, by decide, Tryz.func116.trans (congrArg some (by kernel_rfl))⟩
  t0 := Tryz.underlying0
  a0 := Tryz.isAgg0
  z0 := Tryz.sizeOf0
  v0 := Tryz.zeroValue0
  t24 := Tryz.underlying63
  a24 := Tryz.isAgg63
  z24 := Tryz.sizeOf63
  v24 := Tryz.zeroValue63
  t26 := Tryz.underlying9
  a26 := Tryz.isAgg9
  z26 := Tryz.sizeOf9
  v26 := Tryz.zeroValue9
  t28 := Tryz.underlying118
  a28 := Tryz.isAgg118
  z28 := Tryz.sizeOf118
  v28 := Tryz.zeroValue118
  i26 := by kernel_rfl }
def Tryz.sort88_ren : Go.Shelf.Ren := ⟨fun | 6 => 88 | 8 => 118 | 9 => 117 | 19 => 150 | 20 => 151 | 21 => 141 | 22 => 142 | 23 => 143 | 24 => 144 | 25 => 145 | 26 => 146 | 27 => 147 | 28 => 148 | 29 => 149 | 36 => 175 | 31 => 176 | 32 => 177 | 37 => 178 | 38 => 179 | 39 => 180 | 41 => 194 | n => n, fun | 27 => 63 | 29 => 9 | 3 => 3 | 32 => 147 | 26 => 63 | 0 => 0 | 44 => 84 | 46 => 130 | 4 => 4 | 36 => 185 | 35 => 184 | 41 => 189 | 5 => 5 | 9 => 9 | 53 => 203 | 57 => 207 | 63 => 220 | 64 => 221 | n => n, fun | n => n⟩
theorem Tryz.sort88 : Go.Proofs.SlLaysM.n6 Tryz.prog Tryz.sort88_ren := {
  mixed := by kernel_rfl
  f6 := ⟨Tryz.f88.name, by decide, Tryz.func88.trans (congrArg some (by kernel_rfl))⟩
  f8 := Tryz.func118.trans (congrArg some (by kernel_rfl))
  f9 := ⟨Tryz.f117.name, by decide, Tryz.func117.trans (congrArg some (by kernel_rfl))⟩
  f19 := Tryz.func150.trans (congrArg some (by kernel_rfl))
  f20 := Tryz.func151.trans (congrArg some (by kernel_rfl))
  f21 := ⟨Tryz.f141.name, by decide, Tryz.func141.trans (congrArg some (by kernel_rfl))⟩
  f22 := ⟨Tryz.f142.name, by decide, Tryz.func142.trans (congrArg some (by kernel_rfl))⟩
  f23 := ⟨Tryz.f143.name, by decide, Tryz.func143.trans (congrArg some (by kernel_rfl))⟩
  f24 := ⟨Tryz.f144.name, by decide, Tryz.func144.trans (congrArg some (by kernel_rfl))⟩
  f25 := ⟨Tryz.f145.name, by decide, Tryz.func145.trans (congrArg some (by kernel_rfl))⟩
  f26 := ⟨Tryz.f146.name, by decide, Tryz.func146.trans (congrArg some (by kernel_rfl))⟩
  f27 := ⟨Tryz.f147.name, by decide, Tryz.func147.trans (congrArg some (by kernel_rfl))⟩
  f28 := ⟨Tryz.f148.name, by decide, Tryz.func148.trans (congrArg some (by kernel_rfl))⟩
  f29 := ⟨Tryz.f149.name, by decide, Tryz.func149.trans (congrArg some (by kernel_rfl))⟩
  f31 := Tryz.func176.trans (congrArg some (by kernel_rfl))
  f32 := Tryz.func177.trans (congrArg some (by kernel_rfl))
  f36 := ⟨Tryz.f175.name, by decide, Tryz.func175.trans (congrArg some (by kernel_rfl))⟩
  f37 := ⟨Tryz.f178.name, by decide, Tryz.func178.trans (congrArg some (by kernel_rfl))⟩
  f38 := ⟨Tryz.f179.name, by decide, Tryz.func179.trans (congrArg some (by kernel_rfl))⟩
  f39 := ⟨Tryz.f180.name, by decide, Tryz.func180.trans (congrArg some (by kernel_rfl))⟩
  f41 := ⟨Tryz.f194.name, by decide, Tryz.func194.trans (congrArg some (by kernel_rfl))⟩
  t0 := Tryz.underlying0
  a0 := Tryz.isAgg0
  z0 := Tryz.sizeOf0
  v0 := Tryz.zeroValue0
  t3 := Tryz.underlying3
  a3 := Tryz.isAgg3
  z3 := Tryz.sizeOf3
  v3 := Tryz.zeroValue3
  t4 := Tryz.underlying4
  a4 := Tryz.isAgg4
  z4 := Tryz.sizeOf4
  v4 := Tryz.zeroValue4
  t5 := Tryz.underlying5
  a5 := Tryz.isAgg5
  z5 := Tryz.sizeOf5
  v5 := Tryz.zeroValue5
  t9 := Tryz.underlying9
  a9 := Tryz.isAgg9
  z9 := Tryz.sizeOf9
  v9 := Tryz.zeroValue9
  t26 := Tryz.underlying63
  a26 := Tryz.isAgg63
  z26 := Tryz.sizeOf63
  v26 := Tryz.zeroValue63
  t27 := Tryz.underlying63
  a27 := Tryz.isAgg63
  z27 := Tryz.sizeOf63
  v27 := Tryz.zeroValue63
  t29 := Tryz.underlying9
  a29 := Tryz.isAgg9
  z29 := Tryz.sizeOf9
  v29 := Tryz.zeroValue9
  t32 := Tryz.underlying147
  a32 := Tryz.isAgg147
  z32 := Tryz.sizeOf147
  v32 := Tryz.zeroValue147
  t35 := Tryz.underlying184
  a35 := Tryz.isAgg184
  z35 := Tryz.sizeOf184
  v35 := Tryz.zeroValue184
  t36 := Tryz.underlying185
  a36 := Tryz.isAgg185
  z36 := Tryz.sizeOf185
  v36 := Tryz.zeroValue185
  t41 := Tryz.underlying189
  a41 := Tryz.isAgg189
  z41 := Tryz.sizeOf189
  v41 := Tryz.zeroValue189
  t44 := Tryz.underlying84
  a44 := Tryz.isAgg84
  z44 := Tryz.sizeOf84
  v44 := Tryz.zeroValue84
  t46 := Tryz.underlying130
  a46 := Tryz.isAgg130
  z46 := Tryz.sizeOf130
  v46 := Tryz.zeroValue130
  t53 := Tryz.underlying203
  a53 := Tryz.isAgg203
  z53 := Tryz.sizeOf203
  v53 := Tryz.zeroValue203
  t57 := Tryz.underlying207
  a57 := Tryz.isAgg207
  z57 := Tryz.sizeOf207
  v57 := Tryz.zeroValue207
  t63 := Tryz.underlying220
  a63 := Tryz.isAgg220
  z63 := Tryz.sizeOf220
  v63 := Tryz.zeroValue220
  t64 := Tryz.underlying221
  a64 := Tryz.isAgg221
  z64 := Tryz.sizeOf221
  v64 := Tryz.zeroValue221 }
open Go.RowKit Go.Maps Go.Sort Go.Shelf
theorem Tryz.sorts54 (m : Nat) : AnyZ.SortsIn Tryz.prog Tryz.sorted54_ren Fence.wide m :=
  ⟨fun blk off cap ss W hH hblk hsz => callsIn_wide.2 (AnyM.slices_Sort_string Tryz.sort88 blk off cap ss W hH hblk hsz),
   fun p cap W => callsIn_wide.2 (AnyM.slices_Sort_string_none Tryz.sort88 p cap W)⟩
theorem Tryz.maps_Keys_55 (mb : Option Nat) (W : World) : CallsIn Fence.wide 5 Tryz.prog 55 #[.map mb] W fun e w' => e = .returned (.func (.func 89) #[] #[.pointer (some ⟨W.heap.size, 0, none⟩)]) ∧ w' = W.alloc (.cells #[.map mb] 93) :=
  AnyZ.keys_in Tryz.keys55 Fence.wide 5 trivial rfl mb W
set_option maxHeartbeats 1000000 in
theorem Tryz.slices_Sorted_keys_54_55 {H : Type} (b nn : Nat) (D0 : DataW H) (R : Value → Option (DataW H × List MemPlace)) (w : World) (hown : w.ownsMap Tryz.prog 9 R b nn D0) (hmax : Maps.size D0 ≤ maxLen) (hbytes : Maps.size D0 * 16 ≤ 140737488355328) :
    CallsIn Fence.wide 5 Tryz.prog 54 #[.func (.func 89) #[] #[.pointer (some ⟨w.heap.size, 0, none⟩)]] (w.alloc (.cells #[.map (some b)] 93)) fun e w' => ∃ (v : Value) (ss : List (List UInt8)), e = .returned v ∧ ss.Perm (strKeys D0) ∧
      w'.ownsRow (w.alloc (.cells #[.map (some b)] 93)).heap.size 9 1 v ss.length ((ss.mergeSort (fun x y => decide (x ≤ y))).map encStr) ∧ (v = .slice none 0 0 ↔ ss = []) ∧ Below (w.alloc (.cells #[.map (some b)] 93)).heap.size (w.alloc (.cells #[.map (some b)] 93)) w' := by
  have hbl := hown.lt
  have hseq : SeqGives Fence.wide 2 Tryz.prog 89 #[.pointer (some ⟨w.heap.size, 0, none⟩)] encStr (fun ss => ss.Perm (strKeys D0)) (Maps.size D0) (w.alloc (.cells #[.map (some b)] 93)) :=
    AnyZ.keys_gives (ρ := Tryz.keys55_ren) { Tryz.keys55 with } Fence.wide _ trivial rfl (by omega) w.heap.size b nn D0 _ (by simp) (by simp) (by
      obtain ⟨es, clock, hb, Ft, hs, hD⟩ := hown
      exact ⟨es, clock, (Below.heap_alloc _ _ b hbl).trans hb, Ft, hs, hD⟩)
  exact AnyZ.sorted_in Tryz.sorted54 Fence.wide 5 trivial trivial trivial trivial rfl (by omega) (Tryz.sorts54 _) (enters_of Tryz.func88 (by kernel_rfl) rfl) 89 #[.pointer (some ⟨w.heap.size, 0, none⟩)] trivial (enters_of Tryz.func89 (by kernel_rfl) rfl) _ _ hmax hbytes _ hseq
end Go.Proofs
set_option linter.unusedVariables false
set_option linter.unusedSimpArgs false
set_option maxRecDepth 100000
set_option maxHeartbeats 1600000
namespace Go.Proofs.YtpchdjdochkjpaaGreatDoor.P
open Go Go.RowKit Go.Maps Go.Sort Go.Proofs.YtpchdjdochkjpaaGreatDoor.Am
abbrev Rn : Value → Option (DataW Unit × List MemPlace) := fun _ => some (.nil, [])
theorem own_of {w : World} {fz : Nat → Prop} {mb : Nat} {l : Tab} (h : MapOk w fz mb l) (hs : ∀ p ∈ l, p.1.size ≤ maxLen) (hl : l.length ≤ maxLen) :
    ∃ D0 : DataW Unit, w.ownsMap Tryz.prog 9 Rn mb l.length D0 ∧ (strKeys D0).Perm (l.map fun p => p.1.data.toList) ∧ Maps.size D0 = l.length := by
  obtain ⟨es, clock, hb, hst, hlen, hent⟩ := h
  have hrd : ∀ (i : Nat) (e : MapEntry) (p : ByteArray × Un), es[i]? = some e → l[i]? = some p → Go.WideElems.rd Tryz.prog 9 Rn e = some (.string p.1.data.toList, .nil) := fun i e p h1 h2 => by
    have hk := (hent i e p h1 h2).1
    unfold Go.WideElems.rd
    rw [hk, Go.WideMaps.keyOf_string_mk Tryz.underlying9 (hs p (List.mem_of_getElem? h2))]
    rfl
  have hget : ∀ e ∈ es, ∃ (i : Nat) (p : ByteArray × Un), es[i]? = some e ∧ l[i]? = some p := fun e he => by
    obtain ⟨i, hi, rfl⟩ := List.getElem_of_mem he
    exact ⟨i, l[i]'(by omega), by simp [hi], by simp [show i < l.length by omega]⟩
  refine ⟨_, ⟨es.toArray, clock, hb, ⟨by simpa [hlen] using hl, hst, fun x hx => ?_⟩, by simp [hlen], rfl⟩, ?_, ?_⟩
  · obtain ⟨i, p, h1, h2⟩ := hget x (by simpa using hx)
    exact ⟨_, hrd i x p h1 h2⟩
  · have h1 := (Go.WideShapes.sorted_perm (es.toArray.toList.map (Go.WideElems.rg Tryz.prog 9 Rn))).map fun p => strOf p.1
    refine h1.trans (List.Perm.of_eq ?_)
    simp only [List.map_map]
    apply List.ext_getElem?
    intro i
    rw [List.getElem?_map, List.getElem?_map]
    cases he : es[i]? with
    | none =>
      have h2 : l[i]? = none := List.getElem?_eq_none (by have := List.getElem?_eq_none_iff.1 he; rw [hlen] at this; exact this)
      rw [h2]; rfl
    | some e =>
      obtain ⟨p, hp⟩ : ∃ p, l[i]? = some p := ⟨l[i]'(by have := (List.getElem?_eq_some_iff.1 he).1; omega), by simp⟩
      rw [hp]
      simp only [Option.map_some, Function.comp_def, Go.WideElems.rg, hrd i e p he hp]
      rfl
  · have := (Go.WideShapes.sorted_perm (es.toArray.toList.map (Go.WideElems.rg Tryz.prog 9 Rn))).length_eq
    simpa [Maps.size, hlen] using this
theorem names_calls (tb : Nat) (w : World) (Q : World → Prop) (ns : List (List UInt8)) (hall : Calls Tryz.prog 39 #[ptT tb] w fun e w1 => e = .returned (.bool true) ∧ Q w1)
    (hQ : ∀ w1, Q w1 → ∃ (mb n : Nat) (D0 : DataW Unit), w1.cell? ⟨tb, 3, none⟩ = some (.map (some mb)) ∧ w1.ownsMap Tryz.prog 9 Rn mb n D0 ∧ (strKeys D0).Perm ns ∧ Maps.size D0 ≤ maxLen ∧ Maps.size D0 * 16 ≤ 140737488355328) :
    Calls Tryz.prog 22 #[ptT tb] w fun e w' => ∃ w1 v, Q w1 ∧ e = .returned v ∧ w'.ownsRow w1.heap.size 9 1 v ns.length ((ns.mergeSort leB).map encStr) ∧ Below w1.heap.size w1 w' := by
  have hnot : ∀ (x : Bool) (w : World), (Op.unary .not (.bool x)).run Tryz.prog w = .ok (.bool (!x)) w := fun _ _ => rfl
  refine (callsIn_wide (n := 6)).1 ?_
  have hf9 : Fence.wide.fn 39 := trivial
  have hfK : Fence.wide.fn 55 := trivial
  have hfS : Fence.wide.fn 54 := trivial
  refine callsIn_of_wp Tryz.func22 rfl trivial ?_ rfl
  simp only [Tryz.ntmps22, List.size_toArray, List.length_cons, List.length_nil, Nat.reduceAdd, Nat.reduceSub, Array.replicate_succ, Array.replicate_zero, List.push_toArray, List.append_toArray, List.nil_append, List.cons_append]
  gi_wp2_with (first
    | (gi_at_call 39; refine (callsIn_wide.2 hall).mono ?_; rintro e w1 ⟨rfl, hq⟩; obtain ⟨mb, nn, D0, hc, hown, hperm, hmax, hbytes⟩ := hQ w1 hq)
    | (gi_at_call 55; refine (Tryz.maps_Keys_55 _ _).mono ?_; rintro e w' ⟨rfl, rfl⟩)
    | (gi_at_call 54; refine (Tryz.slices_Sorted_keys_54_55 mb nn D0 Rn w1 hown hmax hbytes).mono ?_; rintro e w' ⟨v, ss, rfl, hS, hrow, hnil, hb⟩))
  go_ret
  have hP := hS.trans hperm
  rw [mergeSort_of_perm hP, hP.length_eq] at hrow
  exact ⟨w1, v, hq, rfl, ownsRow_base_a hrow (by simp), ((Below.refl _ w1).alloc (Nat.le_refl _) _).trans (hb.mono (by simp))⟩
theorem F_texts {w : World} {fz : Nat → Prop} {base n : Nat} {v : Value} {xs : List (List UInt8)} (h : w.ownsRow base 9 1 v xs.length (xs.map encStr)) (hz : ∀ a k c, v = .slice (some a) k c → fz a.block) : F w fz (.sl 1 (.str ⟨#[]⟩) ((xs.map fun x => (⟨x.toArray⟩ : ByteArray)).map AV.str)) v := by
  obtain ⟨h1, ⟨rfl, h2⟩ | ⟨g, cap, cur, rfl, h2, h3, h4, h5, h6, h7⟩⟩ := h
  · obtain rfl := List.eq_nil_of_length_eq_zero h2
    exact .sl0 _ _
  · have hg := hz _ _ _ rfl
    have e : xs.length = ((xs.map fun x => (⟨x.toArray⟩ : ByteArray)).map AV.str).length := by simp
    rw [e]
    refine .sl 1 _ _ (xs.map encStr) _ cap (by simp) (fun i x u a b => ?_) (fun u hu => ?_) (fun i u j c a b => ?_) rfl hg (by simpa using h4) h5
    · rw [List.getElem?_map, List.getElem?_map] at a
      rw [List.getElem?_map] at b
      cases hx : xs[i]? with
      | none => rw [hx] at a; cases a
      | some y => rw [hx] at a b; cases a; cases b; exact .str _
    · obtain ⟨y, _, rfl⟩ := List.mem_map.1 hu; rfl
    · have hu : ∃ y, u = encStr y := by
        obtain ⟨y, _, rfl⟩ := List.mem_map.1 (List.mem_of_getElem? a); exact ⟨y, rfl⟩
      obtain ⟨y, rfl⟩ := hu
      have hj : j = 0 ∧ c = encStr y := by
        rcases j with _ | j
        · cases b; exact ⟨rfl, rfl⟩
        · cases b
      obtain ⟨rfl, rfl⟩ := hj
      have hi : i < xs.length := by have := (List.getElem?_eq_some_iff.1 a).1; simpa using this
      have h8 : cur.toList[i]? = some (encStr y) := by
        have h9 : (cur.toList.take (xs.length * 1))[i]? = some (encStr y) := by rw [h7]; exact a
        rwa [List.getElem?_take_of_lt (by omega)] at h9
      rw [show (0 : Nat) + (i * 1 + 0) = i by omega, cell_of_row w _ _ _ _ _ h3, ← Array.getElem?_toList]
      exact h8
theorem names_holds (tb : Nat) (T : Option Tab) (l : Tab) (hs : ∀ p ∈ l, p.1.size ≤ maxLen) (hl : l.length * 16 ≤ 140737488355328) (hall : HoldsX Tryz.prog (G0 0) 39 [] [.raw (ptT tb)] [] (tbR tb T) (.bool true) [] (fun y => y = tbR tb (some l))) :
    HoldsX Tryz.prog (G0 0) 22 [] [.raw (ptT tb)] [] (tbR tb T) (.sl 1 (.str ⟨#[]⟩) ((((l.map fun p => p.1.data.toList).mergeSort leB).map fun x => (⟨x.toArray⟩ : ByteArray)).map AV.str)) [] (fun y => y = tbR tb (some l)) := by
  refine ⟨by kernel_rfl, fun w fz β vs hG hfz hr hi hb hP hgh hx => ?_⟩
  have hc := hall.2 w fz β vs hG hfz hr hi hb hP hgh hx
  obtain ⟨v0, us, rfl, h0, hP⟩ := hP.head
  obtain rfl := hP.none
  obtain rfl := raw_val h0
  let Q : World → Prop := fun w' => ∃ (fz' : Nat → Prop), Bel (fun b => (tbR tb T).bl w b) w w' ∧ (∀ b, fz b → fz' b) ∧ (∀ b, fz' b → b < w'.heap.size ∧ (b < w.heap.size → fz b)) ∧
    (tbR tb (some l)).ok w' fz' ∧ ∀ b, (tbR tb (some l)).bl w' b → b < w'.heap.size ∧ ¬ fz' b ∧ ((tbR tb T).bl w b ∨ w.heap.size ≤ b)
  refine (names_calls tb w Q (l.map fun p => p.1.data.toList) (hc.mono ?_) (fun w1 hq => ?_)).mono ?_
  · rintro e w' ⟨v, β', fz', rfl, k1, k2, k3, _, _, k4, _, _, _, x', rfl, k5, k6⟩
    obtain rfl := k4.bool_inv
    refine ⟨rfl, fz', k1.wr (fun b hb' => ?_), k2, k3, k5, fun b hb' => ⟨(k6 b hb').1, (k6 b hb').2.1, (k6 b hb').2.2.1⟩⟩
    rcases hb' with ⟨t, o, ht, _⟩ | hb'
    · exact absurd ht (Nat.not_lt_zero _)
    · exact hb'
  · obtain ⟨fz', _, _, _, ⟨mb, hok⟩, _⟩ := hq
    obtain ⟨D0, d1, d2, d3⟩ := own_of hok.2.2.2.2 hs (by unfold maxLen; omega)
    exact ⟨mb, l.length, D0, (cell_tab hok.2.2.2.1).2.2.2, d1, d2, by rw [d3]; unfold maxLen; omega, by rw [d3]; exact hl⟩
  · rintro e w' ⟨w1, v, ⟨fz', k1, k2, k3, k5, k6⟩, rfl, hrow, hbl⟩
    have hrow' : w'.ownsRow w1.heap.size 9 1 v ((l.map fun p => p.1.data.toList).mergeSort leB).length (((l.map fun p => p.1.data.toList).mergeSort leB).map encStr) := by simpa using hrow
    have hg : ∀ a k c, v = .slice (some a) k c → w1.heap.size ≤ a.block ∧ a.block < w'.heap.size := fun a k c hv => by
      rcases hrow.2 with ⟨h1, _⟩ | ⟨g, cap, cur, h1, h2, h3, _⟩
      · rw [hv] at h1; cases h1
      · rw [hv] at h1; cases h1; exact ⟨h2, (Array.getElem?_eq_some_iff.1 h3).1⟩
    let fz2 : Nat → Prop := fun b => fz' b ∨ ∃ a k c, v = .slice (some a) k c ∧ b = a.block
    have hblk : ∀ b, b < w1.heap.size → w'.heap[b]? = w1.heap[b]? := fun b hb' => hbl.block b hb'
    have hsub : ∀ b, fz' b ∨ (tbR tb (some l)).bl w1 b → w'.heap[b]? = w1.heap[b]? := fun b hb' => hblk b (hb'.elim (fun h => (k3 b h).1) (fun h => (k6 b h).1))
    have hm := (tbR tb (some l)).mono k5 hsub (fz' := fz2) (fun b h => .inl h)
    have hw1 : w.heap.size ≤ w1.heap.size := k1.size
    refine ⟨v, fun _ => none, fz2, rfl, ⟨hbl.os.trans k1.os, hbl.tape.trans k1.tape, hbl.output.trans k1.output, Nat.le_trans k1.size hbl.size, fun b hb1 hb2 => ?_⟩, fun b h => .inl (k2 b h), fun b hb' => ?_, Nat.le_refl _, fun t ht => absurd ht (Nat.not_lt_zero _), .f _ _ (F_texts (n := 0) hrow' (fun a k c hv => .inr ⟨a, k, c, hv, rfl⟩)), fun t r h => by simp at h, fun t t' o o' ht => absurd ht (Nat.not_lt_zero _), fun t o ht => absurd ht (Nat.not_lt_zero _), _, rfl, hm.1, fun b hb' => ?_⟩
    · rw [hblk b (by omega)]
      exact k1.block b hb1 (fun h => hb2 (.inr h))
    · rcases hb' with h | ⟨a, k, c, hv, rfl⟩
      · exact ⟨Nat.lt_of_lt_of_le (k3 b h).1 hbl.size, (k3 b h).2⟩
      · have := hg a k c hv
        exact ⟨this.2, fun h => by omega⟩
    · have hb1 := hm.2 b hb'
      obtain ⟨j1, j2, j3⟩ := k6 b hb1
      refine ⟨Nat.lt_of_lt_of_le j1 hbl.size, ?_, j3, fun t o ht => absurd ht (Nat.not_lt_zero _)⟩
      rintro (h | ⟨a, k, c, hv, rfl⟩)
      · exact j2 h
      · have := hg a k c hv; omega
end Go.Proofs.YtpchdjdochkjpaaGreatDoor.P
set_option linter.unusedVariables false
set_option linter.unusedSimpArgs false
namespace Go.Proofs.YtpchdjdochkjpaaGreatDoor.Am
open Go Go.RowKit Go.Proofs.YtpchdjdochkjpaaGreatDoor.P Go.Proofs.YtpchdjdochkjpaaGreatDoorW.PrintWords
section
variable {R T : Type} {M : Pm} {J : R → Out} {G G1 G2 : Option R} {k : List Item} {env : Nat → AV} {H : Nat → Option Row} {fr : Nat → Bool} {ρ : Rs} {ops : Array Oper} {idx : List Nat} {i d : Nat} {op : Op} {ty : TypeId} {pos : String} {af : Array Edge} {md : Option (Option Nat)}
theorem oSi {t e b : TypeId} {x q : Operand} {n : Int} {kk : IntKind} {z z' : AV} {m : List ByteArray} {F : ByteArray → Option R} (ho : ops[i]? = some ⟨some d, .indexAddr t x q, ty, pos, af, none⟩ := by rfl)
    (hx : ev M.N M.G env x = .sl 1 z (m.map AV.str) := by first | rfl | (simp only [go_sem, *]; done) | (simp only [go_sem, *]; rfl)) (hq : ev M.N M.G env q = .int kk n := by first | rfl | (simp only [go_sem, *]; done) | (simp only [go_sem, *]; rfl)) (h0 : decide (0 ≤ n) = true := by first | rfl | (simp only [go_sem, *]; done) | (simp only [go_sem, *]; rfl)) (ha : elS M.P t = some (e, 1, b, z') := by simp only [go_sem, *]; rfl)
    (h : ∀ y, SimB md M J ops (F y) idx k ⟨upd env d (.fptr (.str y)), H, fr, ρ⟩) : SimB md M J ops ((m[n.toNat]?).bind F) (i :: idx) k ⟨env, H, fr, ρ⟩ := by
  cases hr : m[n.toNat]? with
  | none => exact simB_none
  | some y =>
    have h0 := of_decide_eq_true h0
    obtain ⟨hl, hv⟩ := List.getElem?_eq_some_iff.1 hr
    refine simB_act ho rfl rfl (e := { val := .fptr (.str y) }) ?_ (h y)
    have h3 : Am.idxA M.P H t (ev M.N M.G env x) (ev M.N M.G env q) = some (.fptr (.str y)) := by
      rw [hx, hq]
      simp [Am.idxA, ha, List.getD, hr, h0, need, show n < (m.length : Int) by omega, AV.scalar]
      exact hv
    exact (congrArg vo h3).trans rfl
theorem oLe {α : Type} (enc : α → AV) {p : Operand} {L : List α} {F : α → Option R} {t ii c : Nat} {g : Bool} {r : Row} (ho : ops[i]? = some ⟨some d, .load ty p, ty, pos, af, none⟩ := by rfl)
    (hp : ev M.N M.G env p = .optr t ii 0 := by first | rfl | (simp only [go_sem, *]; done) | (simp only [go_sem, *]; rfl)) (hH : H t = some r := by simp only [go_sem, *]; rfl) (hxs : r.xs = L.map enc := by rfl) (hk : kd M.P ty = some (g, c) := by simp only [go_sem, *]; rfl) (hpt : ∀ a, part (enc a) 0 g c = some (enc a) := by intro a; rfl)
    (h : ∀ y, SimB md M J ops (F y) idx k ⟨upd env d (enc y), H, fr, ρ⟩) : SimB md M J ops ((L[ii]?).bind F) (i :: idx) k ⟨env, H, fr, ρ⟩ := by
  cases hr : L[ii]? with
  | none => exact simB_none
  | some y =>
    refine simB_act ho rfl rfl (e := { val := enc y }) ?_ (h y)
    have h3 : Am.ldX M.P ⟨env, H, fr, ρ⟩ ty (ev M.N M.G env p) = some (enc y) := by
      rw [hp]
      have e : r.xs.getD ii .dead = enc y := by rw [hxs]; simp [List.getD, hr]
      simp only [Am.ldX, Am.ld, hk, hH, e, hpt]
    exact (congrArg vo h3).trans (by rw [voSome])
end
end Go.Proofs.YtpchdjdochkjpaaGreatDoor.Am
set_option linter.unusedVariables false
set_option linter.unusedSimpArgs false
namespace Go.Proofs.YtpchdjdochkjpaaGreatDoor.Am
open Go Go.RowKit Go.Proofs.YtpchdjdochkjpaaGreatDoorW.PrintWords Go.Proofs.YtpchdjdochkjpaaGreatDoorW.PrintMore
abbrev old (w : World) : Nat → Prop := fun b => b < w.heap.size
theorem cell_lt {w : World} {a : Addr} {v : Value} (h : w.cell? a = some v) : a.block < w.heap.size ∧ a.spot = none := by
  unfold World.cell? at h
  split at h
  · rename_i hb
    refine ⟨(Array.getElem?_eq_some_iff.1 hb).1, ?_⟩
    by_cases c : a.spot.isSome
    · rw [if_pos c] at h; cases h
    · simpa using c
  · cases h
theorem F_of_row {w : World} {k : IntKind} {a : Option Addr} {len cap : Nat} {zs : List Int} (h : (a = none ∧ len = 0 ∧ cap = 0 ∧ zs = []) ∨ ∃ x, a = some x ∧ len ≤ cap ∧ cap ≤ maxLen ∧ zs.length = cap ∧ (∀ i, i < zs.length → w.cell? (x.add i) = some (.int k (zs.getD i 0))) ∧ ∀ n ∈ zs, (Lit.int k n).wf = true) :
    ∃ l : List Int, len = l.length ∧ F w (old w) (.sl 1 (.int k 0) (l.map (AV.int k))) (.slice a l.length cap) ∧ l.length ≤ maxLen ∧ ∀ x ∈ l, (Lit.int k x).wf = true := by
  rcases h with ⟨rfl, rfl, rfl, rfl⟩ | ⟨x, rfl, h1, h2, h3, h4, h5⟩
  · exact ⟨[], rfl, .sl0 _ _, by simp, by simp⟩
  · have hl : (zs.take len).length = len := by simp; omega
    refine ⟨zs.take len, hl.symm, ?_, by omega, fun n hn => h5 n (List.mem_of_mem_take hn)⟩
    rcases Nat.eq_zero_or_pos len with rfl | hp
    · simp only [List.take_zero, List.map_nil, List.length_nil]
      exact .slE _ _ _ _ h2
    · have h0 := h4 0 (by omega)
      have hx := cell_lt h0
      have hs : x.spot = none := by
        have := hx.2
        unfold Addr.add at this
        cases x with
        | mk b o s => cases s <;> simp_all
      have ex : x = ⟨x.block, x.off, none⟩ := addr_eta hs
      have hb : x.block < w.heap.size := by
        have := hx.1
        rw [ex, addr_add] at this
        exact this
      have := F.sl (w := w) (fz := old w) 1 (.int k 0) ((zs.take len).map (AV.int k)) ((zs.take len).map (Value.int k)) x cap (by simp)
        (fun i y u e1 e2 => by
          rw [List.getElem?_map] at e1 e2
          cases hq : (zs.take len)[i]? with
          | none => rw [hq] at e1; cases e1
          | some n => rw [hq] at e1 e2; obtain rfl := Option.some.inj e1; obtain rfl := Option.some.inj e2; exact .int _ _)
        (fun u hu => by obtain ⟨n, _, rfl⟩ := List.mem_map.1 hu; rfl)
        (fun i u j c e1 e2 => by
          rw [List.getElem?_map] at e1
          cases hq : (zs.take len)[i]? with
          | none => rw [hq] at e1; cases e1
          | some n =>
            rw [hq] at e1
            obtain rfl := Option.some.inj e1
            obtain ⟨hi, hv⟩ := List.getElem?_eq_some_iff.1 hq
            have hi' : i < zs.length := by rw [hl] at hi; omega
            have hj : j = 0 ∧ c = .int k n := by
              rcases j with _ | j
              · exact ⟨rfl, (Option.some.inj e2).symm⟩
              · simp [Value.cells] at e2
            obtain ⟨rfl, rfl⟩ := hj
            have e := h4 i hi'
            rw [ex, addr_add] at e
            rw [List.getElem_take] at hv
            simp only [Nat.mul_one, Nat.add_zero, e, List.getD_eq_getElem?_getD, List.getElem?_eq_getElem hi', Option.getD_some, hv])
        hs hb (by simp; omega) h2
      simpa using this
def Fl (w : World) (fz : Nat → Prop) (cs : List AV) (vs : List Value) : Prop := vs.length = cs.length ∧ (∀ x ∈ cs, x.scalar = true) ∧ ∀ (i : Nat) (x : AV) (v : Value), cs[i]? = some x → vs[i]? = some v → F w fz x v
theorem Fl.nil {w : World} {fz : Nat → Prop} : Fl w fz [] [] := ⟨rfl, fun x h => by simp at h, fun i x v h => by simp at h⟩
theorem Fl.cons {w : World} {fz : Nat → Prop} {x : AV} {v : Value} {cs : List AV} {vs : List Value} (h : F w fz x v) (hs : x.scalar = true) (t : Fl w fz cs vs) : Fl w fz (x :: cs) (v :: vs) :=
  ⟨by simp [t.1], fun y hy => by
    rcases List.mem_cons.1 hy with rfl | hy
    · exact hs
    · exact t.2.1 y hy, fun i y u h1 h2 => by
    cases i with
    | zero => obtain rfl := Option.some.inj h1; obtain rfl := Option.some.inj h2; exact h
    | succ i => exact t.2.2 i y u h1 h2⟩
theorem F_agg {w : World} {fz : Nat → Prop} {cs : List AV} {vs : List Value} (h : Fl w fz cs vs) : F w fz (.agg cs) (.agg vs.toArray) := .agg cs vs h.1 h.2.1 h.2.2
theorem calls_of_holds {P : Program} {G : Nat → AV} {f : Nat} {args : List AV} (H : Holds P G f [] args (.bool true) []) (w : World) (vs : List Value) (hG : Gl G w (old w)) (hV : Pw w (old w) (fun _ => none) (lens []) args vs) :
    Calls P f vs.toArray w fun e w' => e = .returned (.bool true) ∧ Below w.heap.size w w' := by
  refine (H.2 w (old w) (fun _ => none) vs hG (fun b h => h) (fun t r h => by simp at h) (fun t t' o o' h => by simp at h) (fun t o h => by simp at h) hV).mono ?_
  rintro e w' ⟨v, β', fz', rfl, hb, _, _, _, _, hv, _⟩
  have hv : v = .bool true := by cases hv with | f _ _ h => cases h; rfl
  subst hv
  exact ⟨rfl, hb.os, hb.tape, hb.output, hb.size, fun k hk => hb.block k hk (fun ⟨t, o, h, _⟩ => by simp at h)⟩
end Go.Proofs.YtpchdjdochkjpaaGreatDoor.Am
set_option linter.unusedVariables false
set_option linter.unusedSimpArgs false
namespace Go.Proofs.YtpchdjdochkjpaaGreatDoor.Am
open Go Go.RowKit
variable {H : Type} {enc : TypeId × Value → H}
end Go.Proofs.YtpchdjdochkjpaaGreatDoor.Am
set_option linter.unusedVariables false
set_option linter.unusedSimpArgs false
namespace Go.Proofs.YtpchdjdochkjpaaGreatDoor.Am
open Go Go.RowKit
def tiled : List (Nat × Nat) → Nat → Nat → Bool
  | [], o, e => o == e
  | p :: l, o, e => p.1 == o && tiled l (o + p.2) e
def plainT (P : Program) : Nat → TypeId → Bool
  | 0, _ => false
  | m + 1, t => match P.underlying t with
    | some .bool => true
    | some (.int _) => true
    | some .string => true
    | some (.array n e) => plainT P m e && tiled ((List.range n).map fun i => (i * P.cellsOf e, P.cellsOf e)) 0 (P.cellsOf t)
    | some (.struct fs) => fs.toList.all (fun f => plainT P m f.type) && tiled (fs.toList.map fun f => (f.offset, P.cellsOf f.type)) 0 (P.cellsOf t)
    | _ => false
def flatF {H : Type} : Nat → DataW H → List Value
  | 0, _ => []
  | m + 1, d => match d with
    | .lit (.bool b) => [.bool b]
    | .lit (.int k n) => [.int k n]
    | .lit (.string l) => [.string ⟨l.toArray⟩]
    | .agg ds => ds.flatMap (flatF m)
    | _ => []
theorem flat_pieces {H α : Type} {m : Nat} {cs : List Value} {f : α → Option (DataW H × List MemPlace)} (off sz : α → Nat) : ∀ (l : List α) (xs : List (DataW H × List MemPlace)) (o : Nat), l.mapM f = some xs → tiled (l.map fun a => (off a, sz a)) o cs.length = true →
    (∀ a ∈ l, ∀ x, f a = some x → (cs.drop (off a)).take (sz a) = flatF m x.1) → cs.drop o = (xs.map (·.1)).flatMap (flatF m)
  | [], xs, o, h, ht, _ => by
    obtain rfl : xs = [] := by simpa using h.symm
    simp only [List.map_nil, tiled, beq_iff_eq] at ht
    subst ht
    simp
  | a :: l, xs, o, h, ht, hf => by
    simp only [List.mapM_cons, Option.bind_eq_bind, Option.bind_eq_some_iff, Option.pure_def, Option.some.injEq] at h
    obtain ⟨b, hb, r, hr, rfl⟩ := h
    simp only [List.map_cons, tiled, Bool.and_eq_true, beq_iff_eq] at ht
    obtain ⟨rfl, ht⟩ := ht
    have ih := flat_pieces off sz l r _ hr ht (fun a ha => hf a (by simp [ha]))
    simp only [List.map_cons, List.flatMap_cons]
    rw [← hf a (by simp) b hb, ← ih, ← List.drop_drop]
    exact (List.take_append_drop _ _).symm
theorem flat_of {H : Type} {enc : TypeId × Value → H} {P : Program} {w : World} {base : Nat} {sp : Nat → Bool} {held : Bool} : ∀ (m : Nat) (t : TypeId) (cs : List Value) (D : DataW H) (p : List MemPlace) (fuel : Nat), plainT P m t = true → DataW.trod enc P w base sp held fuel t cs = some (D, p) → cs = flatF m D
  | 0, t, cs, D, p, fuel, h, _ => by simp [plainT] at h
  | m + 1, t, cs, D, p, 0, _, h => by simp [DataW.trod] at h
  | m + 1, t, cs, D, p, fuel + 1, h, hd => by
    unfold plainT at h
    split at h
    · rename_i ht
      obtain ⟨b, rfl, hx⟩ := DataW.trod_bool ht hd
      cases hx; rfl
    · rename_i k ht
      obtain ⟨n, rfl, hx, _⟩ := DataW.trod_int ht hd
      cases hx; rfl
    · rename_i ht
      obtain ⟨s, rfl, hx, _⟩ := DataW.trod_string ht hd
      cases hx
      simp [flatF]
    · rename_i n e ht
      simp only [Bool.and_eq_true] at h
      simp only [DataW.trod, ht] at hd
      split at hd
      · rename_i hl
        obtain ⟨xs, hm, hx⟩ := Option.map_eq_some_iff.1 hd
        cases hx
        have := flat_pieces (m := m) (cs := cs) (fun i => i * P.cellsOf e) (fun _ => P.cellsOf e) (List.range n) xs 0 hm (by rw [hl]; exact h.2) (fun i _ x hx => flat_of m e _ x.1 x.2 fuel h.1 hx)
        simpa [flatF] using this
      · cases hd
    · rename_i fs ht
      simp only [Bool.and_eq_true, List.all_eq_true] at h
      simp only [DataW.trod, ht] at hd
      split at hd
      · rename_i hl
        obtain ⟨xs, hm, hx⟩ := Option.map_eq_some_iff.1 hd
        cases hx
        have := flat_pieces (m := m) (cs := cs) (fun f : Field => f.offset) (fun f => P.cellsOf f.type) fs.toList xs 0 hm (by rw [hl]; exact h.2) (fun f hf x hx => flat_of m f.type _ x.1 x.2 fuel (h.1 f hf) hx)
        simpa [flatF] using this
      · cases hd
    · cases h
theorem F_of_stab {P : Program} {W : World} {name : String} {D : DataW Unit} {rest : List (String × DataW Unit)} {g m : Nat} {t : TypeId} {xs : List AV} (hg : P.globalNamed name = some g) (hty : (P.globals[g]?).map (·.type) = some t) (hp : plainT P m t = true)
    (hx : xs = (flatF m D).map cavS) (hs : xs.all AV.scalar = true) (hn : 0 < xs.length) (h : laidMet P ((name, D) :: rest) W) : F W (old W) (.fptr (.agg xs)) (.pointer (some ⟨g, 0, none⟩)) := by
  subst hx
  obtain ⟨ps, ⟨g', t', cs, fuel, p, q, hg', ht', hvar, hd, _, _⟩, _⟩ := h
  obtain rfl := Option.some.inj (hg.symm.trans hg')
  obtain rfl := Option.some.inj (hty.symm.trans ht')
  have hc := flat_of m t _ D p fuel hp hd
  have cell : ∀ j v, (flatF m D)[j]? = some v → W.cell? ⟨g, j, none⟩ = some v := fun j v hj => by
    have := World.var?_cell hg hvar j
    rw [this, ← Array.getElem?_toList, hc]
    exact hj
  have hsc : ∀ v ∈ flatF m D, (cavS v).scalar = true := fun v hv => List.all_eq_true.1 hs _ (List.mem_map.2 ⟨v, hv, rfl⟩)
  refine .fptr _ (.agg (flatF m D).toArray) ⟨g, 0, none⟩ (.agg _ _ (by simp) (fun x hx => by obtain ⟨b, hb, rfl⟩ := List.mem_map.1 hx; exact hsc b hb) (fun i x v e1 e2 => ?_)) (fun j c hj => ?_) rfl ?_
  · rw [List.getElem?_map] at e1
    rw [e2] at e1
    obtain rfl := Option.some.inj e1
    exact cavS_F (hsc v (List.mem_of_getElem? e2))
  · simp only [Value.cells, List.getElem?_toArray] at hj
    simpa using cell j c hj
  · have hn' : 0 < (flatF m D).length := by simpa using hn
    exact (cell_lt (cell 0 _ (List.getElem?_eq_getElem hn'))).1
end Go.Proofs.YtpchdjdochkjpaaGreatDoor.Am

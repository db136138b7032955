/- Plain functions: what the Go functions of a package come to. · Plain functions: what the Go functions of a package come to. · Plain functions: what the Go functions of a package come to. · Plain functions: what the Go functions of a package come to. · Plain functions: what the Go functions of a package come to. · Plain functions: what the Go functions of a package come to. · Plain functions: what the Go functions of a package come to. · Plain functions: what the Go functions of a package come to. · Plain functions: what the Go functions of a package come to. · Plain functions: what the Go functions of a package come to. · Plain functions: what the Go functions of a package come to. · Plain functions: what the Go functions of a package come to. · Plain functions: what the Go functions of a package come to. · Plain functions: what the Go functions of a package come to. · Plain functions: what the Go functions of a package come to. · Plain functions: what the Go functions of a package come to. · Plain functions: what the Go functions of a package come to. · Plain functions: what the Go functions of a package come to. -/
import Derived.Test.YtnilfndadahgaaaDoorYWords
import Derived.Lib.Strings
import Derived.Lib.CutLaws
set_option linter.unusedVariables false
set_option linter.unusedSimpArgs false
namespace Go.Proofs.YtnilfndadahgaaaDoor.P
open Go.RowKit Go.Proofs.YtnilfndadahgaaaDoorW.PrintWords Go.Proofs.YtnilfndadahgaaaDoorW.PrintLast Go.Proofs.YtnilfndadahgaaaDoorW.PrintMore
def stringslite_HasPrefix.f (a0 : ByteArray) (a1 : ByteArray) : Option (Bool) := if (a0.size : Int) ≥ (a1.size : Int) then (if 0 ≤ (a1.size : Int) then (if (a1.size : Int) ≤ (a0.size : Int) then (some ((a0.extract 0 ((a1.size : Int) : Int).toNat).toList == a1.toList)) else (none)) else (none)) else (some false)
def stringslite_CutPrefix.f (a0 : ByteArray) (a1 : ByteArray) : Option (ByteArray × Bool) := (stringslite_HasPrefix.f a0 a1).bind fun t102 => (if t102 = true then (if 0 ≤ (a1.size : Int) then (if (a1.size : Int) ≤ (a0.size : Int) then (some (a0.extract ((a1.size : Int) : Int).toNat a0.size, true)) else (none)) else (none)) else (some (a0, false)))
def strings_CutPrefix.f (a0 : ByteArray) (a1 : ByteArray) : Option (ByteArray × Bool) := (stringslite_CutPrefix.f a0 a1).bind fun bt103 => (some (bt103.1, bt103.2))
def bits_Add32.f (a0 : Int) (a1 : Int) (a2 : Int) : Option (Int × Int) := some ((IntKind.u64.wrap ((IntKind.u64.wrap ((IntKind.u64.wrap (a0)) + (IntKind.u64.wrap (a1)))) + (IntKind.u64.wrap (a2)))) % 4294967296, ((IntKind.u64.wrap ((IntKind.u64.wrap ((IntKind.u64.wrap (a0)) + (IntKind.u64.wrap (a1)))) + (IntKind.u64.wrap (a2)))) / 4294967296) % 4294967296)
def cmp_isNaN_int.f (a0 : Int) : Option (Bool) := some (a0 != a0)
def cmp_Compare_int.f (a0 : Int) (a1 : Int) : Option (Int) := (cmp_isNaN_int.f a0).bind fun t215 => ((cmp_isNaN_int.f a1).bind fun t216 => (if t215 = true then (if t216 = true then (some 0) else (some (-1))) else (if t216 = true then (some 1) else (if a0 < a1 then (some (-1)) else (if a0 > a1 then (some 1) else (some 0))))))
def cmp_isNaN_uint32.f (a0 : Int) : Option (Bool) := some (a0 != a0)
def cmp_Compare_uint32.f (a0 : Int) (a1 : Int) : Option (Int) := (cmp_isNaN_uint32.f a0).bind fun t217 => ((cmp_isNaN_uint32.f a1).bind fun t218 => (if t217 = true then (if t218 = true then (some 0) else (some (-1))) else (if t218 = true then (some 1) else (if a0 < a1 then (some (-1)) else (if a0 > a1 then (some 1) else (some 0))))))
def bits_Sub32.f (a0 : Int) (a1 : Int) (a2 : Int) : Option (Int × Int) := some ((((a0 - a1) % 4294967296) - a2) % 4294967296, (Go.bits .or .u32 (Go.bits .and .u32 (Go.bits .xor .u32 4294967295 a0) a1) (Go.bits .and .u32 (Go.bits .xor .u32 4294967295 (Go.bits .xor .u32 a0 a1)) ((((a0 - a1) % 4294967296) - a2) % 4294967296))) / 2147483648)
def bytealg_Cutover.f (a0 : Int) : Option (Int) := some (wrap64 (Int.tdiv (wrap64 (a0 + 16)) 8))
mutual
def bytealg_hashStr_string.l0 : Nat → ByteArray → Int → Int → Option (Int × Int)
  | 0, _, _, _ => none
  | k + 1, x0, x4, x5 => if x5 < (x0.size : Int) then (if 0 ≤ x5 then (bytealg_hashStr_string.l0 k x0 ((((x4 * 16777619) % 4294967296) + ((bt x0 x5) % 4294967296)) % 4294967296) (wrap64 (x5 + 1))) else (none)) else (bytealg_hashStr_string.l1 k x4 1 16777619 (x0.size : Int))
def bytealg_hashStr_string.l1 : Nat → Int → Int → Int → Int → Option (Int × Int)
  | 0, _, _, _, _ => none
  | k + 1, x4, x6, x7, x8 => if x8 > 0 then (if (Go.bits .and .i64 x8 1) = 0 then (bytealg_hashStr_string.l1 k x4 x6 ((x7 * x7) % 4294967296) (x8 / 2)) else (bytealg_hashStr_string.l1 k x4 ((x6 * x7) % 4294967296) ((x7 * x7) % 4294967296) (x8 / 2))) else (some (x4, x6))
end
def bytealg_hashStr_string.f (k : Nat) (a0 : ByteArray) : Option (Int × Int) := bytealg_hashStr_string.l0 k a0 0 0
theorem bytealg_hashStr_string.mono_l : ∀ k, (∀ y0 y1 y2, LeO (bytealg_hashStr_string.l0 k y0 y1 y2) (bytealg_hashStr_string.l0 (k + 1) y0 y1 y2)) ∧ (∀ y0 y1 y2 y3, LeO (bytealg_hashStr_string.l1 k y0 y1 y2 y3) (bytealg_hashStr_string.l1 (k + 1) y0 y1 y2 y3))
  | 0 => ⟨fun _ _ _ r h => by simp [bytealg_hashStr_string.l0] at h, fun _ _ _ _ r h => by simp [bytealg_hashStr_string.l1] at h⟩
  | k + 1 => by
    obtain ⟨ih0, ih1⟩ := bytealg_hashStr_string.mono_l k
    refine ⟨?_, ?_⟩
    · intro y0 y1 y2
      unfold bytealg_hashStr_string.l0
      repeat' first
      | (with_reducible exact ih0 _ _ _)
      | (with_reducible exact ih1 _ _ _ _)
      | (with_reducible exact LeO.refl _)
      | (with_reducible exact LeO.none _)
      | (with_reducible refine LeO.ite ?_ ?_)
      | (with_reducible refine LeO.bind ?_ (fun _ => ?_))
      | exact ih0 _ _ _
      | exact ih1 _ _ _ _
      | exact LeO.none _
      | refine LeO.ite ?_ ?_
      | refine LeO.bind ?_ (fun _ => ?_)
    · intro y0 y1 y2 y3
      unfold bytealg_hashStr_string.l1
      repeat' first
      | (with_reducible exact ih0 _ _ _)
      | (with_reducible exact ih1 _ _ _ _)
      | (with_reducible exact LeO.refl _)
      | (with_reducible exact LeO.none _)
      | (with_reducible refine LeO.ite ?_ ?_)
      | (with_reducible refine LeO.bind ?_ (fun _ => ?_))
      | exact ih0 _ _ _
      | exact ih1 _ _ _ _
      | exact LeO.none _
      | refine LeO.ite ?_ ?_
      | refine LeO.bind ?_ (fun _ => ?_)
theorem bytealg_hashStr_string.mono : ∀ a0 k, LeO (bytealg_hashStr_string.f k a0) (bytealg_hashStr_string.f (k + 1) a0) := by
  intro a0 k
  obtain ⟨ih0, ih1⟩ := bytealg_hashStr_string.mono_l k
  unfold bytealg_hashStr_string.f
  repeat' first
      | (with_reducible exact ih0 _ _ _)
      | (with_reducible exact ih1 _ _ _ _)
      | (with_reducible exact LeO.refl _)
      | (with_reducible exact LeO.none _)
      | (with_reducible refine LeO.ite ?_ ?_)
      | (with_reducible refine LeO.bind ?_ (fun _ => ?_))
      | exact ih0 _ _ _
      | exact ih1 _ _ _ _
      | exact LeO.none _
      | refine LeO.ite ?_ ?_
      | refine LeO.bind ?_ (fun _ => ?_)
mutual
def bytealg_IndexRabinKarp_string.l0 : Nat → ByteArray → ByteArray → Int → Int → Int → Int → Int → Option (Int)
  | 0, _, _, _, _, _, _, _ => none
  | k + 1, x0, x1, x5, x6, x7, x8, x9 => if x9 < x7 then (if 0 ≤ x9 then (if x9 < (x0.size : Int) then (bytealg_IndexRabinKarp_string.l0 k x0 x1 x5 x6 x7 ((((x8 * 16777619) % 4294967296) + ((bt x0 x9) % 4294967296)) % 4294967296) (wrap64 (x9 + 1))) else (none)) else (none)) else (if x8 = x5 then (if 0 ≤ x7 then (if x7 ≤ (x0.size : Int) then (bytealg_IndexRabinKarp_string.j1 k x0 x1 x5 x6 x7 x8 ((x0.extract 0 (x7 : Int).toNat).toList == x1.toList)) else (none)) else (none)) else (bytealg_IndexRabinKarp_string.j1 k x0 x1 x5 x6 x7 x8 false))
def bytealg_IndexRabinKarp_string.j1 : Nat → ByteArray → ByteArray → Int → Int → Int → Int → Bool → Option (Int)
  | 0, _, _, _, _, _, _, _ => none
  | k + 1, x0, x1, x5, x6, x7, x8, x39 => if x39 = true then (some 0) else (bytealg_IndexRabinKarp_string.l1 k x0 x1 x5 x6 x7 x8 x7)
def bytealg_IndexRabinKarp_string.l1 : Nat → ByteArray → ByteArray → Int → Int → Int → Int → Int → Option (Int)
  | 0, _, _, _, _, _, _, _ => none
  | k + 1, x0, x1, x5, x6, x7, x8, x10 => if x10 < (x0.size : Int) then (if 0 ≤ x10 then (if 0 ≤ (wrap64 (x10 - x7)) then (if (wrap64 (x10 - x7)) < (x0.size : Int) then (if ((((((x8 * 16777619) % 4294967296) + ((bt x0 x10) % 4294967296)) % 4294967296) - ((x6 * ((bt x0 (wrap64 (x10 - x7))) % 4294967296)) % 4294967296)) % 4294967296) = x5 then (if 0 ≤ (wrap64 ((wrap64 (x10 + 1)) - x7)) then (if (wrap64 ((wrap64 (x10 + 1)) - x7)) ≤ (wrap64 (x10 + 1)) then (if (wrap64 (x10 + 1)) ≤ (x0.size : Int) then (if (x0.extract ((wrap64 ((wrap64 (x10 + 1)) - x7)) : Int).toNat ((wrap64 (x10 + 1)) : Int).toNat).toList = x1.toList then (some (wrap64 ((wrap64 (x10 + 1)) - x7))) else (bytealg_IndexRabinKarp_string.l1 k x0 x1 x5 x6 x7 ((((((x8 * 16777619) % 4294967296) + ((bt x0 x10) % 4294967296)) % 4294967296) - ((x6 * ((bt x0 (wrap64 (x10 - x7))) % 4294967296)) % 4294967296)) % 4294967296) (wrap64 (x10 + 1)))) else (none)) else (none)) else (none)) else (bytealg_IndexRabinKarp_string.l1 k x0 x1 x5 x6 x7 ((((((x8 * 16777619) % 4294967296) + ((bt x0 x10) % 4294967296)) % 4294967296) - ((x6 * ((bt x0 (wrap64 (x10 - x7))) % 4294967296)) % 4294967296)) % 4294967296) (wrap64 (x10 + 1)))) else (none)) else (none)) else (none)) else (some (-1))
end
def bytealg_IndexRabinKarp_string.f (k : Nat) (a0 : ByteArray) (a1 : ByteArray) : Option (Int) := (bytealg_hashStr_string.f k a1).bind fun bt1018 => (bytealg_IndexRabinKarp_string.l0 k a0 a1 bt1018.1 bt1018.2 (a1.size : Int) 0 0)
theorem bytealg_IndexRabinKarp_string.mono_l : ∀ k, (∀ y0 y1 y2 y3 y4 y5 y6, LeO (bytealg_IndexRabinKarp_string.l0 k y0 y1 y2 y3 y4 y5 y6) (bytealg_IndexRabinKarp_string.l0 (k + 1) y0 y1 y2 y3 y4 y5 y6)) ∧ (∀ y0 y1 y2 y3 y4 y5 y6, LeO (bytealg_IndexRabinKarp_string.j1 k y0 y1 y2 y3 y4 y5 y6) (bytealg_IndexRabinKarp_string.j1 (k + 1) y0 y1 y2 y3 y4 y5 y6)) ∧ (∀ y0 y1 y2 y3 y4 y5 y6, LeO (bytealg_IndexRabinKarp_string.l1 k y0 y1 y2 y3 y4 y5 y6) (bytealg_IndexRabinKarp_string.l1 (k + 1) y0 y1 y2 y3 y4 y5 y6))
  | 0 => ⟨fun _ _ _ _ _ _ _ r h => by simp [bytealg_IndexRabinKarp_string.l0] at h, fun _ _ _ _ _ _ _ r h => by simp [bytealg_IndexRabinKarp_string.j1] at h, fun _ _ _ _ _ _ _ r h => by simp [bytealg_IndexRabinKarp_string.l1] at h⟩
  | k + 1 => by
    obtain ⟨ih0, ih1, ih2⟩ := bytealg_IndexRabinKarp_string.mono_l k
    refine ⟨?_, ?_, ?_⟩
    · intro y0 y1 y2 y3 y4 y5 y6
      unfold bytealg_IndexRabinKarp_string.l0
      repeat' first
      | (with_reducible exact ih0 _ _ _ _ _ _ _)
      | (with_reducible exact ih1 _ _ _ _ _ _ _)
      | (with_reducible exact ih2 _ _ _ _ _ _ _)
      | (with_reducible exact bytealg_hashStr_string.mono _ _)
      | (with_reducible exact LeO.refl _)
      | (with_reducible exact LeO.none _)
      | (with_reducible refine LeO.ite ?_ ?_)
      | (with_reducible refine LeO.bind ?_ (fun _ => ?_))
      | exact ih0 _ _ _ _ _ _ _
      | exact ih1 _ _ _ _ _ _ _
      | exact ih2 _ _ _ _ _ _ _
      | exact bytealg_hashStr_string.mono _ _
      | exact LeO.none _
      | refine LeO.ite ?_ ?_
      | refine LeO.bind ?_ (fun _ => ?_)
    · intro y0 y1 y2 y3 y4 y5 y6
      unfold bytealg_IndexRabinKarp_string.j1
      repeat' first
      | (with_reducible exact ih0 _ _ _ _ _ _ _)
      | (with_reducible exact ih1 _ _ _ _ _ _ _)
      | (with_reducible exact ih2 _ _ _ _ _ _ _)
      | (with_reducible exact bytealg_hashStr_string.mono _ _)
      | (with_reducible exact LeO.refl _)
      | (with_reducible exact LeO.none _)
      | (with_reducible refine LeO.ite ?_ ?_)
      | (with_reducible refine LeO.bind ?_ (fun _ => ?_))
      | exact ih0 _ _ _ _ _ _ _
      | exact ih1 _ _ _ _ _ _ _
      | exact ih2 _ _ _ _ _ _ _
      | exact bytealg_hashStr_string.mono _ _
      | exact LeO.none _
      | refine LeO.ite ?_ ?_
      | refine LeO.bind ?_ (fun _ => ?_)
    · intro y0 y1 y2 y3 y4 y5 y6
      unfold bytealg_IndexRabinKarp_string.l1
      repeat' first
      | (with_reducible exact ih0 _ _ _ _ _ _ _)
      | (with_reducible exact ih1 _ _ _ _ _ _ _)
      | (with_reducible exact ih2 _ _ _ _ _ _ _)
      | (with_reducible exact bytealg_hashStr_string.mono _ _)
      | (with_reducible exact LeO.refl _)
      | (with_reducible exact LeO.none _)
      | (with_reducible refine LeO.ite ?_ ?_)
      | (with_reducible refine LeO.bind ?_ (fun _ => ?_))
      | exact ih0 _ _ _ _ _ _ _
      | exact ih1 _ _ _ _ _ _ _
      | exact ih2 _ _ _ _ _ _ _
      | exact bytealg_hashStr_string.mono _ _
      | exact LeO.none _
      | refine LeO.ite ?_ ?_
      | refine LeO.bind ?_ (fun _ => ?_)
theorem bytealg_IndexRabinKarp_string.mono : ∀ a0 a1 k, LeO (bytealg_IndexRabinKarp_string.f k a0 a1) (bytealg_IndexRabinKarp_string.f (k + 1) a0 a1) := by
  intro a0 a1 k
  obtain ⟨ih0, ih1, ih2⟩ := bytealg_IndexRabinKarp_string.mono_l k
  unfold bytealg_IndexRabinKarp_string.f
  repeat' first
      | (with_reducible exact ih0 _ _ _ _ _ _ _)
      | (with_reducible exact ih1 _ _ _ _ _ _ _)
      | (with_reducible exact ih2 _ _ _ _ _ _ _)
      | (with_reducible exact bytealg_hashStr_string.mono _ _)
      | (with_reducible exact LeO.refl _)
      | (with_reducible exact LeO.none _)
      | (with_reducible refine LeO.ite ?_ ?_)
      | (with_reducible refine LeO.bind ?_ (fun _ => ?_))
      | exact ih0 _ _ _ _ _ _ _
      | exact ih1 _ _ _ _ _ _ _
      | exact ih2 _ _ _ _ _ _ _
      | exact bytealg_hashStr_string.mono _ _
      | exact LeO.none _
      | refine LeO.ite ?_ ?_
      | refine LeO.bind ?_ (fun _ => ?_)
def strings_Cut.f (a0 : ByteArray) (a1 : ByteArray) : Option (ByteArray × ByteArray × Bool) := if a0.size < 4294967281 then some (⟨(Go.Lib.cut a0.data.toList a1.data.toList).1.toArray⟩, ⟨(Go.Lib.cut a0.data.toList a1.data.toList).2.1.toArray⟩, (Go.Lib.cut a0.data.toList a1.data.toList).2.2) else none
def len8_ : ByteArray := ⟨(([0, 1, 2, 2, 3, 3, 3, 3, 4, 4, 4, 4, 4, 4, 4, 4, 5, 5, 5, 5, 5, 5, 5, 5, 5, 5, 5, 5, 5, 5, 5, 5, 6, 6, 6, 6, 6, 6, 6, 6, 6, 6, 6, 6, 6, 6, 6, 6, 6, 6, 6, 6, 6, 6, 6, 6, 6, 6, 6, 6, 6, 6, 6, 6].append [7, 7, 7, 7, 7, 7, 7, 7, 7, 7, 7, 7, 7, 7, 7, 7, 7, 7, 7, 7, 7, 7, 7, 7, 7, 7, 7, 7, 7, 7, 7, 7, 7, 7, 7, 7, 7, 7, 7, 7, 7, 7, 7, 7, 7, 7, 7, 7, 7, 7, 7, 7, 7, 7, 7, 7, 7, 7, 7, 7, 7, 7, 7, 7]).append ([8, 8, 8, 8, 8, 8, 8, 8, 8, 8, 8, 8, 8, 8, 8, 8, 8, 8, 8, 8, 8, 8, 8, 8, 8, 8, 8, 8, 8, 8, 8, 8, 8, 8, 8, 8, 8, 8, 8, 8, 8, 8, 8, 8, 8, 8, 8, 8, 8, 8, 8, 8, 8, 8, 8, 8, 8, 8, 8, 8, 8, 8, 8, 8].append [8, 8, 8, 8, 8, 8, 8, 8, 8, 8, 8, 8, 8, 8, 8, 8, 8, 8, 8, 8, 8, 8, 8, 8, 8, 8, 8, 8, 8, 8, 8, 8, 8, 8, 8, 8, 8, 8, 8, 8, 8, 8, 8, 8, 8, 8, 8, 8, 8, 8, 8, 8, 8, 8, 8, 8, 8, 8, 8, 8, 8, 8, 8, 8])).toArray⟩
def bits_Len32.f (a0 : Int) : Option (Int) := if a0 ≥ 65536 then (if (a0 / 65536) ≥ 256 then (if 0 ≤ (((a0 / 65536) / 256) % 256) then (if (((a0 / 65536) / 256) % 256) < 256 then (some (wrap64 ((16 + 8) + (wrap64 (bt len8_ (((a0 / 65536) / 256) % 256)))))) else (none)) else (none)) else (if 0 ≤ ((a0 / 65536) % 256) then (if ((a0 / 65536) % 256) < 256 then (some (wrap64 (16 + (wrap64 (bt len8_ ((a0 / 65536) % 256)))))) else (none)) else (none))) else (if a0 ≥ 256 then (if 0 ≤ ((a0 / 256) % 256) then (if ((a0 / 256) % 256) < 256 then (some (wrap64 ((0 + 8) + (wrap64 (bt len8_ ((a0 / 256) % 256)))))) else (none)) else (none)) else (if 0 ≤ ((a0) % 256) then (if ((a0) % 256) < 256 then (some (wrap64 (0 + (wrap64 (bt len8_ ((a0) % 256)))))) else (none)) else (none)))
def bits_LeadingZeros32.f (a0 : Int) : Option (Int) := (bits_Len32.f a0).bind fun t1039 => (some (wrap64 (32 - t1039)))
end Go.Proofs.YtnilfndadahgaaaDoor.P
set_option linter.unusedVariables false
set_option linter.unusedSimpArgs false
namespace Go.Proofs.YtnilfndadahgaaaDoor.P
open Go.RowKit Go.Proofs.YtnilfndadahgaaaDoorW.PrintWords Go.Proofs.YtnilfndadahgaaaDoorW.PrintLast Go.Proofs.YtnilfndadahgaaaDoorW.PrintMore
def nat_used.l0 : Nat → List Int → Int → Option (Int)
  | 0, _, _ => none
  | k + 1, x0, x3 => if x3 > 0 then (if 0 ≤ (wrap64 (x3 - 1)) then (if (wrap64 (x3 - 1)) < (x0.length : Int) then (if (rd x0 (wrap64 (x3 - 1))) = 0 then (nat_used.l0 k x0 (wrap64 (x3 - 1))) else (some x3)) else (none)) else (none)) else (some x3)
def nat_used.f (k : Nat) (l0 : List Int) : Option (Int) := nat_used.l0 k l0 (l0.length : Int)
theorem nat_used.mono_l : ∀ k, (∀ y0 y1, LeO (nat_used.l0 k y0 y1) (nat_used.l0 (k + 1) y0 y1))
  | 0 => fun _ _ r h => by simp [nat_used.l0] at h
  | k + 1 => by
    have ih0 := nat_used.mono_l k
    · intro y0 y1
      unfold nat_used.l0
      repeat' first
      | (with_reducible exact ih0 _ _)
      | (with_reducible exact LeO.refl _)
      | (with_reducible exact LeO.none _)
      | (with_reducible refine LeO.ite ?_ ?_)
      | (with_reducible refine LeO.bind ?_ (fun _ => ?_))
      | exact ih0 _ _
      | exact LeO.none _
      | refine LeO.ite ?_ ?_
      | refine LeO.bind ?_ (fun _ => ?_)
theorem nat_used.mono : ∀ a0 k, LeO (nat_used.f k a0) (nat_used.f (k + 1) a0) := by
  intro a0 k
  have ih0 := nat_used.mono_l k
  unfold nat_used.f
  repeat' first
      | (with_reducible exact ih0 _ _)
      | (with_reducible exact LeO.refl _)
      | (with_reducible exact LeO.none _)
      | (with_reducible refine LeO.ite ?_ ?_)
      | (with_reducible refine LeO.bind ?_ (fun _ => ?_))
      | exact ih0 _ _
      | exact LeO.none _
      | refine LeO.ite ?_ ?_
      | refine LeO.bind ?_ (fun _ => ?_)
def nat_Trim.f (k : Nat) (l0 : List Int) : Option (List Int) := (nat_used.f k l0).bind fun t106 => (if 0 ≤ t106 then (if (t106 : Int).toNat ≤ 70368744177664 then (some (cpy (List.replicate (t106 : Int).toNat 0) 0 l0)) else (none)) else (none))
theorem nat_Trim.mono : ∀ a0 k, LeO (nat_Trim.f k a0) (nat_Trim.f (k + 1) a0) := by
  intro a0 k
  unfold nat_Trim.f
  repeat' first
      | (with_reducible exact nat_used.mono _ _)
      | (with_reducible exact LeO.refl _)
      | (with_reducible exact LeO.none _)
      | (with_reducible refine LeO.ite ?_ ?_)
      | (with_reducible refine LeO.bind ?_ (fun _ => ?_))
      | exact nat_used.mono _ _
      | exact LeO.none _
      | refine LeO.ite ?_ ?_
      | refine LeO.bind ?_ (fun _ => ?_)
def nat_at.f (l0 : List Int) (a1 : Int) : Option (Int) := if a1 < (l0.length : Int) then (if 0 ≤ a1 then (some (rd l0 a1)) else (none)) else (some 0)
def nat_Add.l0 : Nat → List Int → List Int → List Int → Int → Int → Int → Option (List Int)
  | 0, _, _, _, _, _, _ => none
  | k + 1, x0, x1, x5, x6, x19, x20 => if x20 < x19 then ((nat_at.f x0 x20).bind fun t118 => ((nat_at.f x1 x20).bind fun t119 => ((bits_Add32.f t118 t119 x6).bind fun bt120 => (if 0 ≤ x20 then (if x20 < (x5.length : Int) then (nat_Add.l0 k x0 x1 (x5.set (x20 : Int).toNat bt120.1) bt120.2 x19 (wrap64 (x20 + 1))) else (none)) else (none))))) else ((nat_Trim.f k x5).bind fun t123 => (some t123))
def nat_Add.f (k : Nat) (l0 : List Int) (l1 : List Int) : Option (List Int) := (nat_used.f k l0).bind fun t112 => ((nat_used.f k l1).bind fun t113 => (if 0 ≤ (wrap64 ((mx t112 t113) + 1)) then (if (wrap64 ((mx t112 t113) + 1) : Int).toNat ≤ 70368744177664 then ((some (List.replicate (wrap64 ((mx t112 t113) + 1) : Int).toNat 0 : List Int)).bind fun y114 => (nat_Add.l0 k l0 l1 (cpy y114 0 l0) 0 (y114.length : Int) 0)) else (none)) else (none)))
theorem nat_Add.mono_l : ∀ k, (∀ y0 y1 y2 y3 y4 y5, LeO (nat_Add.l0 k y0 y1 y2 y3 y4 y5) (nat_Add.l0 (k + 1) y0 y1 y2 y3 y4 y5))
  | 0 => fun _ _ _ _ _ _ r h => by simp [nat_Add.l0] at h
  | k + 1 => by
    have ih0 := nat_Add.mono_l k
    · intro y0 y1 y2 y3 y4 y5
      unfold nat_Add.l0
      repeat' first
      | (with_reducible exact ih0 _ _ _ _ _ _)
      | (with_reducible exact nat_Trim.mono _ _)
      | (with_reducible exact nat_used.mono _ _)
      | (with_reducible exact LeO.refl _)
      | (with_reducible exact LeO.none _)
      | (with_reducible refine LeO.ite ?_ ?_)
      | (with_reducible refine LeO.bind ?_ (fun _ => ?_))
      | exact ih0 _ _ _ _ _ _
      | exact nat_Trim.mono _ _
      | exact nat_used.mono _ _
      | exact LeO.none _
      | refine LeO.ite ?_ ?_
      | refine LeO.bind ?_ (fun _ => ?_)
theorem nat_Add.mono : ∀ a0 a1 k, LeO (nat_Add.f k a0 a1) (nat_Add.f (k + 1) a0 a1) := by
  intro a0 a1 k
  have ih0 := nat_Add.mono_l k
  unfold nat_Add.f
  repeat' first
      | (with_reducible exact ih0 _ _ _ _ _ _)
      | (with_reducible exact nat_Trim.mono _ _)
      | (with_reducible exact nat_used.mono _ _)
      | (with_reducible exact LeO.refl _)
      | (with_reducible exact LeO.none _)
      | (with_reducible refine LeO.ite ?_ ?_)
      | (with_reducible refine LeO.bind ?_ (fun _ => ?_))
      | exact ih0 _ _ _ _ _ _
      | exact nat_Trim.mono _ _
      | exact nat_used.mono _ _
      | exact LeO.none _
      | refine LeO.ite ?_ ?_
      | refine LeO.bind ?_ (fun _ => ?_)
def nat_Of.f (k : Nat) (a0 : Int) : Option (List Int) := (nat_Trim.f k (([(a0) % 4294967296, (a0 / 4294967296) % 4294967296] : List Int))).bind fun t129 => (some t129)
theorem nat_Of.mono : ∀ a0 k, LeO (nat_Of.f k a0) (nat_Of.f (k + 1) a0) := by
  intro a0 k
  unfold nat_Of.f
  repeat' first
      | (with_reducible exact nat_Trim.mono _ _)
      | (with_reducible exact LeO.refl _)
      | (with_reducible exact LeO.none _)
      | (with_reducible refine LeO.ite ?_ ?_)
      | (with_reducible refine LeO.bind ?_ (fun _ => ?_))
      | exact nat_Trim.mono _ _
      | exact LeO.none _
      | refine LeO.ite ?_ ?_
      | refine LeO.bind ?_ (fun _ => ?_)
def nat_Cmp.l0 : Nat → List Int → List Int → Int → Option (Int)
  | 0, _, _, _ => none
  | k + 1, x0, x1, x7 => if x7 ≥ 0 then (if 0 ≤ x7 then (if x7 < (x0.length : Int) then (if x7 < (x1.length : Int) then ((cmp_Compare_uint32.f (rd x0 x7) (rd x1 x7)).bind fun t224 => (if t224 = 0 then (nat_Cmp.l0 k x0 x1 (wrap64 (x7 - 1))) else (some t224))) else (none)) else (none)) else (none)) else (some 0)
def nat_Cmp.f (k : Nat) (l0 : List Int) (l1 : List Int) : Option (Int) := (nat_used.f k l0).bind fun t219 => ((nat_used.f k l1).bind fun t220 => ((cmp_Compare_int.f t219 t220).bind fun t221 => (if t221 = 0 then (nat_Cmp.l0 k l0 l1 (wrap64 (t219 - 1))) else (some t221))))
theorem nat_Cmp.mono_l : ∀ k, (∀ y0 y1 y2, LeO (nat_Cmp.l0 k y0 y1 y2) (nat_Cmp.l0 (k + 1) y0 y1 y2))
  | 0 => fun _ _ _ r h => by simp [nat_Cmp.l0] at h
  | k + 1 => by
    have ih0 := nat_Cmp.mono_l k
    · intro y0 y1 y2
      unfold nat_Cmp.l0
      repeat' first
      | (with_reducible exact ih0 _ _ _)
      | (with_reducible exact nat_used.mono _ _)
      | (with_reducible exact LeO.refl _)
      | (with_reducible exact LeO.none _)
      | (with_reducible refine LeO.ite ?_ ?_)
      | (with_reducible refine LeO.bind ?_ (fun _ => ?_))
      | exact ih0 _ _ _
      | exact nat_used.mono _ _
      | exact LeO.none _
      | refine LeO.ite ?_ ?_
      | refine LeO.bind ?_ (fun _ => ?_)
theorem nat_Cmp.mono : ∀ a0 a1 k, LeO (nat_Cmp.f k a0 a1) (nat_Cmp.f (k + 1) a0 a1) := by
  intro a0 a1 k
  have ih0 := nat_Cmp.mono_l k
  unfold nat_Cmp.f
  repeat' first
      | (with_reducible exact ih0 _ _ _)
      | (with_reducible exact nat_used.mono _ _)
      | (with_reducible exact LeO.refl _)
      | (with_reducible exact LeO.none _)
      | (with_reducible refine LeO.ite ?_ ?_)
      | (with_reducible refine LeO.bind ?_ (fun _ => ?_))
      | exact ih0 _ _ _
      | exact nat_used.mono _ _
      | exact LeO.none _
      | refine LeO.ite ?_ ?_
      | refine LeO.bind ?_ (fun _ => ?_)
def nat_Sub.l0 : Nat → List Int → List Int → Int → Int → Int → Option (List Int × Bool)
  | 0, _, _, _, _, _ => none
  | k + 1, x1, x6, x7, x16, x17 => if x17 < x16 then (if 0 ≤ x17 then (if x17 < (x6.length : Int) then ((nat_at.f x1 x17).bind fun t230 => ((bits_Sub32.f (rd x6 x17) t230 x7).bind fun bt231 => (nat_Sub.l0 k x1 (x6.set (x17 : Int).toNat bt231.1) bt231.2 x16 (wrap64 (x17 + 1))))) else (none)) else (none)) else ((nat_Trim.f k x6).bind fun t234 => (some (t234, true)))
def nat_Sub.f (k : Nat) (l0 : List Int) (l1 : List Int) : Option (List Int × Bool) := (nat_Cmp.f k l0 l1).bind fun t225 => (if t225 < 0 then (some (([] : List Int), false)) else ((nat_Trim.f k l0).bind fun t226 => (nat_Sub.l0 k l1 t226 0 (t226.length : Int) 0)))
theorem nat_Sub.mono_l : ∀ k, (∀ y0 y1 y2 y3 y4, LeO (nat_Sub.l0 k y0 y1 y2 y3 y4) (nat_Sub.l0 (k + 1) y0 y1 y2 y3 y4))
  | 0 => fun _ _ _ _ _ r h => by simp [nat_Sub.l0] at h
  | k + 1 => by
    have ih0 := nat_Sub.mono_l k
    · intro y0 y1 y2 y3 y4
      unfold nat_Sub.l0
      repeat' first
      | (with_reducible exact ih0 _ _ _ _ _)
      | (with_reducible exact nat_Cmp.mono _ _ _)
      | (with_reducible exact nat_Trim.mono _ _)
      | (with_reducible exact LeO.refl _)
      | (with_reducible exact LeO.none _)
      | (with_reducible refine LeO.ite ?_ ?_)
      | (with_reducible refine LeO.bind ?_ (fun _ => ?_))
      | exact ih0 _ _ _ _ _
      | exact nat_Cmp.mono _ _ _
      | exact nat_Trim.mono _ _
      | exact LeO.none _
      | refine LeO.ite ?_ ?_
      | refine LeO.bind ?_ (fun _ => ?_)
theorem nat_Sub.mono : ∀ a0 a1 k, LeO (nat_Sub.f k a0 a1) (nat_Sub.f (k + 1) a0 a1) := by
  intro a0 a1 k
  have ih0 := nat_Sub.mono_l k
  unfold nat_Sub.f
  repeat' first
      | (with_reducible exact ih0 _ _ _ _ _)
      | (with_reducible exact nat_Cmp.mono _ _ _)
      | (with_reducible exact nat_Trim.mono _ _)
      | (with_reducible exact LeO.refl _)
      | (with_reducible exact LeO.none _)
      | (with_reducible refine LeO.ite ?_ ?_)
      | (with_reducible refine LeO.bind ?_ (fun _ => ?_))
      | exact ih0 _ _ _ _ _
      | exact nat_Cmp.mono _ _ _
      | exact nat_Trim.mono _ _
      | exact LeO.none _
      | refine LeO.ite ?_ ?_
      | refine LeO.bind ?_ (fun _ => ?_)
end Go.Proofs.YtnilfndadahgaaaDoor.P
set_option linter.unusedVariables false
set_option linter.unusedSimpArgs false
namespace Go.Proofs.YtnilfndadahgaaaDoor.P
open Go.RowKit Go.Proofs.YtnilfndadahgaaaDoorW.PrintWords Go.Proofs.YtnilfndadahgaaaDoorW.PrintLast Go.Proofs.YtnilfndadahgaaaDoorW.PrintMore
mutual
def mul_Of.l0 : Nat → List Int → List Int → List Int → Int → Int → Option (List Int)
  | 0, _, _, _, _, _ => none
  | k + 1, x1, x5, x21, x22, x23 => if x23 < x22 then (if 0 ≤ x23 then (if x23 < (x21.length : Int) then (if 0 ≤ (wrap64 ((x1.length : Int) + 1)) then (if (wrap64 ((x1.length : Int) + 1) : Int).toNat ≤ 70368744177664 then ((some (List.replicate (wrap64 ((x1.length : Int) + 1) : Int).toNat 0 : List Int)).bind fun y145 => (if x23 ≤ (x5.length : Int) then (mul_Of.l1 k x1 x5 x23 (rd x21 x23) (cpy y145 0 (x5.drop (x23 : Int).toNat)) 0 x21 x22 x23 (y145.length : Int) 0) else (none))) else (none)) else (none)) else (none)) else (none)) else ((nat_Trim.f k x5).bind fun t141 => (some t141))
def mul_Of.l1 : Nat → List Int → List Int → Int → Int → List Int → Int → List Int → Int → Int → Int → Int → Option (List Int)
  | 0, _, _, _, _, _, _, _, _, _, _, _ => none
  | k + 1, x1, x5, x6, x7, x8, x9, x21, x22, x23, x38, x39 => if x39 < x38 then (if x39 < (x1.length : Int) then (if 0 ≤ x39 then (if x39 < (x8.length : Int) then (mul_Of.l1 k x1 x5 x6 x7 (x8.set (x39 : Int).toNat ((IntKind.u64.wrap ((IntKind.u64.wrap (x9 + (IntKind.u64.wrap ((IntKind.u64.wrap (x7)) * (IntKind.u64.wrap (rd x1 x39)))))) + (IntKind.u64.wrap (rd x8 x39)))) % 4294967296)) ((IntKind.u64.wrap ((IntKind.u64.wrap (x9 + (IntKind.u64.wrap ((IntKind.u64.wrap (x7)) * (IntKind.u64.wrap (rd x1 x39)))))) + (IntKind.u64.wrap (rd x8 x39)))) / 4294967296) x21 x22 x23 x38 (wrap64 (x39 + 1))) else (none)) else (none)) else (if 0 ≤ x39 then (if x39 < (x8.length : Int) then (mul_Of.l1 k x1 x5 x6 x7 (x8.set (x39 : Int).toNat ((IntKind.u64.wrap (x9 + (IntKind.u64.wrap (rd x8 x39)))) % 4294967296)) ((IntKind.u64.wrap (x9 + (IntKind.u64.wrap (rd x8 x39)))) / 4294967296) x21 x22 x23 x38 (wrap64 (x39 + 1))) else (none)) else (none))) else (if 0 ≤ x6 then (if x6 ≤ (x5.length : Int) then (mul_Of.l0 k x1 (cpy x5 (x6 : Int).toNat x8) x21 x22 (wrap64 (x23 + 1))) else (none)) else (none))
end
def mul_Of.f (k : Nat) (l0 : List Int) (l1 : List Int) : Option (List Int) := (nat_Trim.f k l0).bind fun t132 => ((nat_Trim.f k l1).bind fun t135 => (if 0 ≤ (wrap64 ((t132.length : Int) + (t135.length : Int))) then (if (wrap64 ((t132.length : Int) + (t135.length : Int)) : Int).toNat ≤ 70368744177664 then (mul_Of.l0 k t135 (List.replicate (wrap64 ((t132.length : Int) + (t135.length : Int)) : Int).toNat 0) t132 (t132.length : Int) 0) else (none)) else (none)))
theorem mul_Of.mono_l : ∀ k, (∀ y0 y1 y2 y3 y4, LeO (mul_Of.l0 k y0 y1 y2 y3 y4) (mul_Of.l0 (k + 1) y0 y1 y2 y3 y4)) ∧ (∀ y0 y1 y2 y3 y4 y5 y6 y7 y8 y9 y10, LeO (mul_Of.l1 k y0 y1 y2 y3 y4 y5 y6 y7 y8 y9 y10) (mul_Of.l1 (k + 1) y0 y1 y2 y3 y4 y5 y6 y7 y8 y9 y10))
  | 0 => ⟨fun _ _ _ _ _ r h => by simp [mul_Of.l0] at h, fun _ _ _ _ _ _ _ _ _ _ _ r h => by simp [mul_Of.l1] at h⟩
  | k + 1 => by
    obtain ⟨ih0, ih1⟩ := mul_Of.mono_l k
    refine ⟨?_, ?_⟩
    · intro y0 y1 y2 y3 y4
      unfold mul_Of.l0
      repeat' first
      | (with_reducible exact ih0 _ _ _ _ _)
      | (with_reducible exact ih1 _ _ _ _ _ _ _ _ _ _ _)
      | (with_reducible exact nat_Trim.mono _ _)
      | (with_reducible exact LeO.refl _)
      | (with_reducible exact LeO.none _)
      | (with_reducible refine LeO.ite ?_ ?_)
      | (with_reducible refine LeO.bind ?_ (fun _ => ?_))
      | exact ih0 _ _ _ _ _
      | exact ih1 _ _ _ _ _ _ _ _ _ _ _
      | exact nat_Trim.mono _ _
      | exact LeO.none _
      | refine LeO.ite ?_ ?_
      | refine LeO.bind ?_ (fun _ => ?_)
    · intro y0 y1 y2 y3 y4 y5 y6 y7 y8 y9 y10
      unfold mul_Of.l1
      repeat' first
      | (with_reducible exact ih0 _ _ _ _ _)
      | (with_reducible exact ih1 _ _ _ _ _ _ _ _ _ _ _)
      | (with_reducible exact nat_Trim.mono _ _)
      | (with_reducible exact LeO.refl _)
      | (with_reducible exact LeO.none _)
      | (with_reducible refine LeO.ite ?_ ?_)
      | (with_reducible refine LeO.bind ?_ (fun _ => ?_))
      | exact ih0 _ _ _ _ _
      | exact ih1 _ _ _ _ _ _ _ _ _ _ _
      | exact nat_Trim.mono _ _
      | exact LeO.none _
      | refine LeO.ite ?_ ?_
      | refine LeO.bind ?_ (fun _ => ?_)
theorem mul_Of.mono : ∀ a0 a1 k, LeO (mul_Of.f k a0 a1) (mul_Of.f (k + 1) a0 a1) := by
  intro a0 a1 k
  obtain ⟨ih0, ih1⟩ := mul_Of.mono_l k
  unfold mul_Of.f
  repeat' first
      | (with_reducible exact ih0 _ _ _ _ _)
      | (with_reducible exact ih1 _ _ _ _ _ _ _ _ _ _ _)
      | (with_reducible exact nat_Trim.mono _ _)
      | (with_reducible exact LeO.refl _)
      | (with_reducible exact LeO.none _)
      | (with_reducible refine LeO.ite ?_ ?_)
      | (with_reducible refine LeO.bind ?_ (fun _ => ?_))
      | exact ih0 _ _ _ _ _
      | exact ih1 _ _ _ _ _ _ _ _ _ _ _
      | exact nat_Trim.mono _ _
      | exact LeO.none _
      | refine LeO.ite ?_ ?_
      | refine LeO.bind ?_ (fun _ => ?_)
def mul_Small.f (k : Nat) (l0 : List Int) (a1 : Int) : Option (List Int) := (mul_Of.f k l0 (([a1] : List Int))).bind fun t166 => (some t166)
theorem mul_Small.mono : ∀ a0 a1 k, LeO (mul_Small.f k a0 a1) (mul_Small.f (k + 1) a0 a1) := by
  intro a0 a1 k
  unfold mul_Small.f
  repeat' first
      | (with_reducible exact mul_Of.mono _ _ _)
      | (with_reducible exact LeO.refl _)
      | (with_reducible exact LeO.none _)
      | (with_reducible refine LeO.ite ?_ ?_)
      | (with_reducible refine LeO.bind ?_ (fun _ => ?_))
      | exact mul_Of.mono _ _ _
      | exact LeO.none _
      | refine LeO.ite ?_ ?_
      | refine LeO.bind ?_ (fun _ => ?_)
def mul_up.f (k : Nat) (l0 : List Int) (a1 : Int) : Option (List Int) := if 0 ≤ (wrap64 ((wrap64 ((wrap64 (Int.tdiv a1 32)) + (l0.length : Int))) + 1)) then (if (wrap64 ((wrap64 ((wrap64 (Int.tdiv a1 32)) + (l0.length : Int))) + 1) : Int).toNat ≤ 70368744177664 then ((some (List.replicate (wrap64 ((wrap64 ((wrap64 (Int.tdiv a1 32)) + (l0.length : Int))) + 1) : Int).toNat 0 : List Int)).bind fun y1040 => (if 0 ≤ (wrap64 (Int.tdiv a1 32)) then (if (wrap64 (Int.tdiv a1 32)) ≤ (y1040.length : Int) then (if 0 ≤ (Int.tmod a1 32) then ((mul_Small.f k (cpy y1040 ((wrap64 (Int.tdiv a1 32)) : Int).toNat l0) (shl .u32 1 (Int.tmod a1 32))).bind fun t1048 => (some t1048)) else (none)) else (none)) else (none))) else (none)) else (none)
theorem mul_up.mono : ∀ a0 a1 k, LeO (mul_up.f k a0 a1) (mul_up.f (k + 1) a0 a1) := by
  intro a0 a1 k
  unfold mul_up.f
  repeat' first
      | (with_reducible exact mul_Small.mono _ _ _)
      | (with_reducible exact LeO.refl _)
      | (with_reducible exact LeO.none _)
      | (with_reducible refine LeO.ite ?_ ?_)
      | (with_reducible refine LeO.bind ?_ (fun _ => ?_))
      | exact mul_Small.mono _ _ _
      | exact LeO.none _
      | refine LeO.ite ?_ ?_
      | refine LeO.bind ?_ (fun _ => ?_)
def mul_down.l0 : Nat → Int → List Int → Int → Int → Option (List Int)
  | 0, _, _, _, _ => none
  | k + 1, x1, x5, x20, x21 => if x21 < x20 then (if (wrap64 (x21 + 1)) < (x5.length : Int) then (if 0 ≤ (wrap64 (x21 + 1)) then (if 0 ≤ x21 then (if x21 < (x5.length : Int) then (if 0 ≤ (Int.tmod x1 32) then (mul_down.l0 k x1 (x5.set (x21 : Int).toNat ((shr .u64 (Go.bits .or .u64 (IntKind.u64.wrap ((IntKind.u64.wrap (rd x5 (wrap64 (x21 + 1)))) * 4294967296)) (IntKind.u64.wrap (rd x5 x21))) (Int.tmod x1 32)) % 4294967296)) x20 (wrap64 (x21 + 1))) else (none)) else (none)) else (none)) else (none)) else (if 0 ≤ x21 then (if x21 < (x5.length : Int) then (if 0 ≤ (Int.tmod x1 32) then (mul_down.l0 k x1 (x5.set (x21 : Int).toNat ((shr .u64 (Go.bits .or .u64 0 (IntKind.u64.wrap (rd x5 x21))) (Int.tmod x1 32)) % 4294967296)) x20 (wrap64 (x21 + 1))) else (none)) else (none)) else (none))) else ((nat_Trim.f k x5).bind fun t1063 => (some t1063))
def mul_down.f (k : Nat) (l0 : List Int) (a1 : Int) : Option (List Int) := if (wrap64 (Int.tdiv a1 32)) ≥ (l0.length : Int) then (some (([] : List Int))) else (if 0 ≤ (wrap64 (Int.tdiv a1 32)) then (if (wrap64 (Int.tdiv a1 32)) ≤ (l0.length : Int) then ((nat_Trim.f k (l0.drop ((wrap64 (Int.tdiv a1 32)) : Int).toNat)).bind fun t1055 => (mul_down.l0 k a1 t1055 (t1055.length : Int) 0)) else (none)) else (none))
theorem mul_down.mono_l : ∀ k, (∀ y0 y1 y2 y3, LeO (mul_down.l0 k y0 y1 y2 y3) (mul_down.l0 (k + 1) y0 y1 y2 y3))
  | 0 => fun _ _ _ _ r h => by simp [mul_down.l0] at h
  | k + 1 => by
    have ih0 := mul_down.mono_l k
    · intro y0 y1 y2 y3
      unfold mul_down.l0
      repeat' first
      | (with_reducible exact ih0 _ _ _ _)
      | (with_reducible exact nat_Trim.mono _ _)
      | (with_reducible exact LeO.refl _)
      | (with_reducible exact LeO.none _)
      | (with_reducible refine LeO.ite ?_ ?_)
      | (with_reducible refine LeO.bind ?_ (fun _ => ?_))
      | exact ih0 _ _ _ _
      | exact nat_Trim.mono _ _
      | exact LeO.none _
      | refine LeO.ite ?_ ?_
      | refine LeO.bind ?_ (fun _ => ?_)
theorem mul_down.mono : ∀ a0 a1 k, LeO (mul_down.f k a0 a1) (mul_down.f (k + 1) a0 a1) := by
  intro a0 a1 k
  have ih0 := mul_down.mono_l k
  unfold mul_down.f
  repeat' first
      | (with_reducible exact ih0 _ _ _ _)
      | (with_reducible exact nat_Trim.mono _ _)
      | (with_reducible exact LeO.refl _)
      | (with_reducible exact LeO.none _)
      | (with_reducible refine LeO.ite ?_ ?_)
      | (with_reducible refine LeO.bind ?_ (fun _ => ?_))
      | exact ih0 _ _ _ _
      | exact nat_Trim.mono _ _
      | exact LeO.none _
      | refine LeO.ite ?_ ?_
      | refine LeO.bind ?_ (fun _ => ?_)
def mul_Shift.f (k : Nat) (l0 : List Int) (a1 : Int) : Option (List Int) := if a1 ≥ 0 then ((mul_up.f k l0 (mn a1 8192)).bind fun t1066 => (some t1066)) else (if a1 < (-8192) then (some (([] : List Int))) else ((mul_down.f k l0 (wrap64 (-a1))).bind fun t1072 => (some t1072)))
theorem mul_Shift.mono : ∀ a0 a1 k, LeO (mul_Shift.f k a0 a1) (mul_Shift.f (k + 1) a0 a1) := by
  intro a0 a1 k
  unfold mul_Shift.f
  repeat' first
      | (with_reducible exact mul_down.mono _ _ _)
      | (with_reducible exact mul_up.mono _ _ _)
      | (with_reducible exact LeO.refl _)
      | (with_reducible exact LeO.none _)
      | (with_reducible refine LeO.ite ?_ ?_)
      | (with_reducible refine LeO.bind ?_ (fun _ => ?_))
      | exact mul_down.mono _ _ _
      | exact mul_up.mono _ _ _
      | exact LeO.none _
      | refine LeO.ite ?_ ?_
      | refine LeO.bind ?_ (fun _ => ?_)
end Go.Proofs.YtnilfndadahgaaaDoor.P
set_option linter.unusedVariables false
set_option linter.unusedSimpArgs false
namespace Go.Proofs.YtnilfndadahgaaaDoor.P
open Go.RowKit Go.Proofs.YtnilfndadahgaaaDoorW.PrintWords Go.Proofs.YtnilfndadahgaaaDoorW.PrintLast Go.Proofs.YtnilfndadahgaaaDoorW.PrintMore
def digits_some.l0 : Nat → ByteArray → Int → Int → Int → Option (Int × Bool)
  | 0, _, _, _, _ => none
  | k + 1, x0, x4, x7, x8 => if x8 < x7 then (if 0 ≤ x8 then (if x8 < (x0.size : Int) then (if (bt x0 x8) < 48 then (some (0, false)) else (if (bt x0 x8) > 57 then (some (0, false)) else (digits_some.l0 k x0 ((((10 * x4) % 4294967296) + (((bt x0 x8) - 48) % 256)) % 4294967296) x7 (wrap64 (x8 + 1))))) else (none)) else (none)) else (some (x4, true))
def digits_some.f (k : Nat) (a0 : ByteArray) : Option (Int × Bool) := digits_some.l0 k a0 0 (a0.size : Int) 0
theorem digits_some.mono_l : ∀ k, (∀ y0 y1 y2 y3, LeO (digits_some.l0 k y0 y1 y2 y3) (digits_some.l0 (k + 1) y0 y1 y2 y3))
  | 0 => fun _ _ _ _ r h => by simp [digits_some.l0] at h
  | k + 1 => by
    have ih0 := digits_some.mono_l k
    · intro y0 y1 y2 y3
      unfold digits_some.l0
      repeat' first
      | (with_reducible exact ih0 _ _ _ _)
      | (with_reducible exact LeO.refl _)
      | (with_reducible exact LeO.none _)
      | (with_reducible refine LeO.ite ?_ ?_)
      | (with_reducible refine LeO.bind ?_ (fun _ => ?_))
      | exact ih0 _ _ _ _
      | exact LeO.none _
      | refine LeO.ite ?_ ?_
      | refine LeO.bind ?_ (fun _ => ?_)
theorem digits_some.mono : ∀ a0 k, LeO (digits_some.f k a0) (digits_some.f (k + 1) a0) := by
  intro a0 k
  have ih0 := digits_some.mono_l k
  unfold digits_some.f
  repeat' first
      | (with_reducible exact ih0 _ _ _ _)
      | (with_reducible exact LeO.refl _)
      | (with_reducible exact LeO.none _)
      | (with_reducible refine LeO.ite ?_ ?_)
      | (with_reducible refine LeO.bind ?_ (fun _ => ?_))
      | exact ih0 _ _ _ _
      | exact LeO.none _
      | refine LeO.ite ?_ ?_
      | refine LeO.bind ?_ (fun _ => ?_)
mutual
def digits_Parse.j0 : Nat → ByteArray → Bool → Option (List Int × Bool)
  | 0, _, _ => none
  | k + 1, x0, x14 => if x14 = true then (some (([] : List Int), false)) else (digits_Parse.l0 k x0 ([] : List Int))
def digits_Parse.l0 : Nat → ByteArray → List Int → Option (List Int × Bool)
  | 0, _, _ => none
  | k + 1, x0, x4 => if x0.toList = ([] : List UInt8) then (some (x4, true)) else (if 0 ≤ (mn 9 (x0.size : Int)) then (if (mn 9 (x0.size : Int)) ≤ (x0.size : Int) then ((digits_some.f k (x0.extract 0 ((mn 9 (x0.size : Int)) : Int).toNat)).bind fun bt169 => (if bt169.2 = true then (if (mn 9 (x0.size : Int)) < (tab0_.length : Int) then ((mul_Small.f k x4 (rd tab0_ (mn 9 (x0.size : Int)))).bind fun t172 => ((nat_Of.f k (IntKind.u64.wrap (bt169.1))).bind fun t175 => ((nat_Add.f k t172 t175).bind fun t178 => (digits_Parse.l0 k (x0.extract ((mn 9 (x0.size : Int)) : Int).toNat x0.size) t178)))) else (none)) else (some (([] : List Int), false)))) else (none)) else (none))
end
def digits_Parse.f (k : Nat) (a0 : ByteArray) : Option (List Int × Bool) := if a0.toList = ([] : List UInt8) then (digits_Parse.j0 k a0 true) else (digits_Parse.j0 k a0 (decide ((a0.size : Int) > 2000)))
theorem digits_Parse.mono_l : ∀ k, (∀ y0 y1, LeO (digits_Parse.j0 k y0 y1) (digits_Parse.j0 (k + 1) y0 y1)) ∧ (∀ y0 y1, LeO (digits_Parse.l0 k y0 y1) (digits_Parse.l0 (k + 1) y0 y1))
  | 0 => ⟨fun _ _ r h => by simp [digits_Parse.j0] at h, fun _ _ r h => by simp [digits_Parse.l0] at h⟩
  | k + 1 => by
    obtain ⟨ih0, ih1⟩ := digits_Parse.mono_l k
    refine ⟨?_, ?_⟩
    · intro y0 y1
      unfold digits_Parse.j0
      repeat' first
      | (with_reducible exact ih0 _ _)
      | (with_reducible exact ih1 _ _)
      | (with_reducible exact digits_some.mono _ _)
      | (with_reducible exact mul_Small.mono _ _ _)
      | (with_reducible exact nat_Add.mono _ _ _)
      | (with_reducible exact nat_Of.mono _ _)
      | (with_reducible exact LeO.refl _)
      | (with_reducible exact LeO.none _)
      | (with_reducible refine LeO.ite ?_ ?_)
      | (with_reducible refine LeO.bind ?_ (fun _ => ?_))
      | exact ih0 _ _
      | exact ih1 _ _
      | exact digits_some.mono _ _
      | exact mul_Small.mono _ _ _
      | exact nat_Add.mono _ _ _
      | exact nat_Of.mono _ _
      | exact LeO.none _
      | refine LeO.ite ?_ ?_
      | refine LeO.bind ?_ (fun _ => ?_)
    · intro y0 y1
      unfold digits_Parse.l0
      repeat' first
      | (with_reducible exact ih0 _ _)
      | (with_reducible exact ih1 _ _)
      | (with_reducible exact digits_some.mono _ _)
      | (with_reducible exact mul_Small.mono _ _ _)
      | (with_reducible exact nat_Add.mono _ _ _)
      | (with_reducible exact nat_Of.mono _ _)
      | (with_reducible exact LeO.refl _)
      | (with_reducible exact LeO.none _)
      | (with_reducible refine LeO.ite ?_ ?_)
      | (with_reducible refine LeO.bind ?_ (fun _ => ?_))
      | exact ih0 _ _
      | exact ih1 _ _
      | exact digits_some.mono _ _
      | exact mul_Small.mono _ _ _
      | exact nat_Add.mono _ _ _
      | exact nat_Of.mono _ _
      | exact LeO.none _
      | refine LeO.ite ?_ ?_
      | refine LeO.bind ?_ (fun _ => ?_)
theorem digits_Parse.mono : ∀ a0 k, LeO (digits_Parse.f k a0) (digits_Parse.f (k + 1) a0) := by
  intro a0 k
  obtain ⟨ih0, ih1⟩ := digits_Parse.mono_l k
  unfold digits_Parse.f
  repeat' first
      | (with_reducible exact ih0 _ _)
      | (with_reducible exact ih1 _ _)
      | (with_reducible exact digits_some.mono _ _)
      | (with_reducible exact mul_Small.mono _ _ _)
      | (with_reducible exact nat_Add.mono _ _ _)
      | (with_reducible exact nat_Of.mono _ _)
      | (with_reducible exact LeO.refl _)
      | (with_reducible exact LeO.none _)
      | (with_reducible refine LeO.ite ?_ ?_)
      | (with_reducible refine LeO.bind ?_ (fun _ => ?_))
      | exact ih0 _ _
      | exact ih1 _ _
      | exact digits_some.mono _ _
      | exact mul_Small.mono _ _ _
      | exact nat_Add.mono _ _ _
      | exact nat_Of.mono _ _
      | exact LeO.none _
      | refine LeO.ite ?_ ?_
      | refine LeO.bind ?_ (fun _ => ?_)
mutual
def digits_Ten.j0 : Nat → Int → Bool → Option (List Int × Bool)
  | 0, _, _ => none
  | k + 1, x0, x10 => if x10 = true then (some (([] : List Int), false)) else ((nat_Of.f k 1).bind fun t1032 => (digits_Ten.l0 k x0 t1032))
def digits_Ten.l0 : Nat → Int → List Int → Option (List Int × Bool)
  | 0, _, _ => none
  | k + 1, x0, x4 => if x0 > 0 then (if 0 ≤ (mn x0 9) then (if (mn x0 9) < (tab0_.length : Int) then ((mul_Small.f k x4 (rd tab0_ (mn x0 9))).bind fun t1036 => (digits_Ten.l0 k (wrap64 (x0 - 9)) t1036)) else (none)) else (none)) else (some (x4, true))
end
def digits_Ten.f (k : Nat) (a0 : Int) : Option (List Int × Bool) := if a0 < 0 then (digits_Ten.j0 k a0 true) else (digits_Ten.j0 k a0 (decide (a0 > 2000)))
theorem digits_Ten.mono_l : ∀ k, (∀ y0 y1, LeO (digits_Ten.j0 k y0 y1) (digits_Ten.j0 (k + 1) y0 y1)) ∧ (∀ y0 y1, LeO (digits_Ten.l0 k y0 y1) (digits_Ten.l0 (k + 1) y0 y1))
  | 0 => ⟨fun _ _ r h => by simp [digits_Ten.j0] at h, fun _ _ r h => by simp [digits_Ten.l0] at h⟩
  | k + 1 => by
    obtain ⟨ih0, ih1⟩ := digits_Ten.mono_l k
    refine ⟨?_, ?_⟩
    · intro y0 y1
      unfold digits_Ten.j0
      repeat' first
      | (with_reducible exact ih0 _ _)
      | (with_reducible exact ih1 _ _)
      | (with_reducible exact mul_Small.mono _ _ _)
      | (with_reducible exact nat_Of.mono _ _)
      | (with_reducible exact LeO.refl _)
      | (with_reducible exact LeO.none _)
      | (with_reducible refine LeO.ite ?_ ?_)
      | (with_reducible refine LeO.bind ?_ (fun _ => ?_))
      | exact ih0 _ _
      | exact ih1 _ _
      | exact mul_Small.mono _ _ _
      | exact nat_Of.mono _ _
      | exact LeO.none _
      | refine LeO.ite ?_ ?_
      | refine LeO.bind ?_ (fun _ => ?_)
    · intro y0 y1
      unfold digits_Ten.l0
      repeat' first
      | (with_reducible exact ih0 _ _)
      | (with_reducible exact ih1 _ _)
      | (with_reducible exact mul_Small.mono _ _ _)
      | (with_reducible exact nat_Of.mono _ _)
      | (with_reducible exact LeO.refl _)
      | (with_reducible exact LeO.none _)
      | (with_reducible refine LeO.ite ?_ ?_)
      | (with_reducible refine LeO.bind ?_ (fun _ => ?_))
      | exact ih0 _ _
      | exact ih1 _ _
      | exact mul_Small.mono _ _ _
      | exact nat_Of.mono _ _
      | exact LeO.none _
      | refine LeO.ite ?_ ?_
      | refine LeO.bind ?_ (fun _ => ?_)
theorem digits_Ten.mono : ∀ a0 k, LeO (digits_Ten.f k a0) (digits_Ten.f (k + 1) a0) := by
  intro a0 k
  obtain ⟨ih0, ih1⟩ := digits_Ten.mono_l k
  unfold digits_Ten.f
  repeat' first
      | (with_reducible exact ih0 _ _)
      | (with_reducible exact ih1 _ _)
      | (with_reducible exact mul_Small.mono _ _ _)
      | (with_reducible exact nat_Of.mono _ _)
      | (with_reducible exact LeO.refl _)
      | (with_reducible exact LeO.none _)
      | (with_reducible refine LeO.ite ?_ ?_)
      | (with_reducible refine LeO.bind ?_ (fun _ => ?_))
      | exact ih0 _ _
      | exact ih1 _ _
      | exact mul_Small.mono _ _ _
      | exact nat_Of.mono _ _
      | exact LeO.none _
      | refine LeO.ite ?_ ?_
      | refine LeO.bind ?_ (fun _ => ?_)
end Go.Proofs.YtnilfndadahgaaaDoor.P
set_option linter.unusedVariables false
set_option linter.unusedSimpArgs false
namespace Go.Proofs.YtnilfndadahgaaaDoor.P
open Go.RowKit Go.Proofs.YtnilfndadahgaaaDoorW.PrintWords Go.Proofs.YtnilfndadahgaaaDoorW.PrintLast Go.Proofs.YtnilfndadahgaaaDoorW.PrintMore
def whole_made.f (k : Nat) (a0 : Bool) (l1 : List Int) : Option (Bool × List Int) := if 0 ≤ (l1.length : Int) then (if ((l1.length : Int) : Int).toNat ≤ 70368744177664 then ((nat_Trim.f k (cpy (List.replicate ((l1.length : Int) : Int).toNat 0) 0 l1)).bind fun t186 => (if a0 = true then (some (decide ((t186.length : Int) > 0), t186)) else (some (false, t186)))) else (none)) else (none)
theorem whole_made.mono : ∀ a0 a1 k, LeO (whole_made.f k a0 a1) (whole_made.f (k + 1) a0 a1) := by
  intro a0 a1 k
  unfold whole_made.f
  repeat' first
      | (with_reducible exact nat_Trim.mono _ _)
      | (with_reducible exact LeO.refl _)
      | (with_reducible exact LeO.none _)
      | (with_reducible refine LeO.ite ?_ ?_)
      | (with_reducible refine LeO.bind ?_ (fun _ => ?_))
      | exact nat_Trim.mono _ _
      | exact LeO.none _
      | refine LeO.ite ?_ ?_
      | refine LeO.bind ?_ (fun _ => ?_)
def whole_Trim.f (k : Nat) (a0_0 : Bool) (l0_1 : List Int) : Option (Bool × List Int) := (whole_made.f k a0_0 l0_1).bind fun bt211 => (some (bt211.1, bt211.2))
theorem whole_Trim.mono : ∀ a0 a1 k, LeO (whole_Trim.f k a0 a1) (whole_Trim.f (k + 1) a0 a1) := by
  intro a0 a1 k
  unfold whole_Trim.f
  repeat' first
      | (with_reducible exact whole_made.mono _ _ _)
      | (with_reducible exact LeO.refl _)
      | (with_reducible exact LeO.none _)
      | (with_reducible refine LeO.ite ?_ ?_)
      | (with_reducible refine LeO.bind ?_ (fun _ => ?_))
      | exact whole_made.mono _ _ _
      | exact LeO.none _
      | refine LeO.ite ?_ ?_
      | refine LeO.bind ?_ (fun _ => ?_)
def whole_Add.f (k : Nat) (a0_0 : Bool) (l0_1 : List Int) (a1_0 : Bool) (l1_1 : List Int) : Option (Bool × List Int) := (whole_Trim.f k a0_0 l0_1).bind fun bt240 => ((whole_Trim.f k a1_0 l1_1).bind fun bt244 => (if (bt240.1 == bt244.1) = true then ((nat_Add.f k bt240.2 bt244.2).bind fun t248 => ((whole_made.f k bt240.1 t248).bind fun bt251 => (some (bt251.1, bt251.2)))) else ((nat_Sub.f k bt240.2 bt244.2).bind fun bt255 => (if bt255.2 = true then ((whole_made.f k bt240.1 bt255.1).bind fun bt259 => (some (bt259.1, bt259.2))) else ((nat_Sub.f k bt244.2 bt240.2).bind fun bt263 => ((whole_made.f k bt244.1 bt263.1).bind fun bt267 => (some (bt267.1, bt267.2))))))))
theorem whole_Add.mono : ∀ a0 a1 a2 a3 k, LeO (whole_Add.f k a0 a1 a2 a3) (whole_Add.f (k + 1) a0 a1 a2 a3) := by
  intro a0 a1 a2 a3 k
  unfold whole_Add.f
  repeat' first
      | (with_reducible exact nat_Add.mono _ _ _)
      | (with_reducible exact nat_Sub.mono _ _ _)
      | (with_reducible exact whole_Trim.mono _ _ _)
      | (with_reducible exact whole_made.mono _ _ _)
      | (with_reducible exact LeO.refl _)
      | (with_reducible exact LeO.none _)
      | (with_reducible refine LeO.ite ?_ ?_)
      | (with_reducible refine LeO.bind ?_ (fun _ => ?_))
      | exact nat_Add.mono _ _ _
      | exact nat_Sub.mono _ _ _
      | exact whole_Trim.mono _ _ _
      | exact whole_made.mono _ _ _
      | exact LeO.none _
      | refine LeO.ite ?_ ?_
      | refine LeO.bind ?_ (fun _ => ?_)
def whole_Mul.f (k : Nat) (a0_0 : Bool) (l0_1 : List Int) (a1_0 : Bool) (l1_1 : List Int) : Option (Bool × List Int) := (mul_Of.f k l0_1 l1_1).bind fun t274 => ((whole_made.f k (a0_0 != a1_0) t274).bind fun bt277 => (some (bt277.1, bt277.2)))
theorem whole_Mul.mono : ∀ a0 a1 a2 a3 k, LeO (whole_Mul.f k a0 a1 a2 a3) (whole_Mul.f (k + 1) a0 a1 a2 a3) := by
  intro a0 a1 a2 a3 k
  unfold whole_Mul.f
  repeat' first
      | (with_reducible exact mul_Of.mono _ _ _)
      | (with_reducible exact whole_made.mono _ _ _)
      | (with_reducible exact LeO.refl _)
      | (with_reducible exact LeO.none _)
      | (with_reducible refine LeO.ite ?_ ?_)
      | (with_reducible refine LeO.bind ?_ (fun _ => ?_))
      | exact mul_Of.mono _ _ _
      | exact whole_made.mono _ _ _
      | exact LeO.none _
      | refine LeO.ite ?_ ?_
      | refine LeO.bind ?_ (fun _ => ?_)
def whole_Of.f (k : Nat) (a0 : Int) : Option (Bool × List Int) := if a0 < 0 then ((nat_Of.f k (IntKind.u64.wrap (-(IntKind.u64.wrap (a0))))).bind fun t339 => ((whole_made.f k true t339).bind fun bt342 => (some (bt342.1, bt342.2)))) else ((nat_Of.f k (IntKind.u64.wrap (a0))).bind fun t346 => ((whole_made.f k false t346).bind fun bt349 => (some (bt349.1, bt349.2))))
theorem whole_Of.mono : ∀ a0 k, LeO (whole_Of.f k a0) (whole_Of.f (k + 1) a0) := by
  intro a0 k
  unfold whole_Of.f
  repeat' first
      | (with_reducible exact nat_Of.mono _ _)
      | (with_reducible exact whole_made.mono _ _ _)
      | (with_reducible exact LeO.refl _)
      | (with_reducible exact LeO.none _)
      | (with_reducible refine LeO.ite ?_ ?_)
      | (with_reducible refine LeO.bind ?_ (fun _ => ?_))
      | exact nat_Of.mono _ _
      | exact whole_made.mono _ _ _
      | exact LeO.none _
      | refine LeO.ite ?_ ?_
      | refine LeO.bind ?_ (fun _ => ?_)
end Go.Proofs.YtnilfndadahgaaaDoor.P
set_option linter.unusedVariables false
set_option linter.unusedSimpArgs false
namespace Go.Proofs.YtnilfndadahgaaaDoor.P
open Go.RowKit Go.Proofs.YtnilfndadahgaaaDoorW.PrintWords Go.Proofs.YtnilfndadahgaaaDoorW.PrintLast Go.Proofs.YtnilfndadahgaaaDoorW.PrintMore
def steelyardkeep_Nat.l0 : Nat → List Int → List Int → Int → Option (Bool)
  | 0, _, _, _ => none
  | k + 1, x0, x1, x5 => if x5 < (x0.length : Int) then (if 0 ≤ x5 then (if x5 < (x1.length : Int) then (if (rd x0 x5) = (rd x1 x5) then (steelyardkeep_Nat.l0 k x0 x1 (wrap64 (x5 + 1))) else (some false)) else (none)) else (none)) else (some true)
def steelyardkeep_Nat.f (k : Nat) (l0 : List Int) (l1 : List Int) : Option (Bool) := if (l0.length : Int) = (l1.length : Int) then (steelyardkeep_Nat.l0 k l0 l1 0) else (some false)
theorem steelyardkeep_Nat.mono_l : ∀ k, (∀ y0 y1 y2, LeO (steelyardkeep_Nat.l0 k y0 y1 y2) (steelyardkeep_Nat.l0 (k + 1) y0 y1 y2))
  | 0 => fun _ _ _ r h => by simp [steelyardkeep_Nat.l0] at h
  | k + 1 => by
    have ih0 := steelyardkeep_Nat.mono_l k
    · intro y0 y1 y2
      unfold steelyardkeep_Nat.l0
      repeat' first
      | (with_reducible exact ih0 _ _ _)
      | (with_reducible exact LeO.refl _)
      | (with_reducible exact LeO.none _)
      | (with_reducible refine LeO.ite ?_ ?_)
      | (with_reducible refine LeO.bind ?_ (fun _ => ?_))
      | exact ih0 _ _ _
      | exact LeO.none _
      | refine LeO.ite ?_ ?_
      | refine LeO.bind ?_ (fun _ => ?_)
theorem steelyardkeep_Nat.mono : ∀ a0 a1 k, LeO (steelyardkeep_Nat.f k a0 a1) (steelyardkeep_Nat.f (k + 1) a0 a1) := by
  intro a0 a1 k
  have ih0 := steelyardkeep_Nat.mono_l k
  unfold steelyardkeep_Nat.f
  repeat' first
      | (with_reducible exact ih0 _ _ _)
      | (with_reducible exact LeO.refl _)
      | (with_reducible exact LeO.none _)
      | (with_reducible refine LeO.ite ?_ ?_)
      | (with_reducible refine LeO.bind ?_ (fun _ => ?_))
      | exact ih0 _ _ _
      | exact LeO.none _
      | refine LeO.ite ?_ ?_
      | refine LeO.bind ?_ (fun _ => ?_)
def steelyardkeep_Int.f (k : Nat) (a0_0 : Bool) (l0_1 : List Int) (a1_0 : Bool) (l1_1 : List Int) : Option (Bool) := if (a0_0 == a1_0) = true then ((steelyardkeep_Nat.f k l0_1 l1_1).bind fun t208 => (some t208)) else (some false)
theorem steelyardkeep_Int.mono : ∀ a0 a1 a2 a3 k, LeO (steelyardkeep_Int.f k a0 a1 a2 a3) (steelyardkeep_Int.f (k + 1) a0 a1 a2 a3) := by
  intro a0 a1 a2 a3 k
  unfold steelyardkeep_Int.f
  repeat' first
      | (with_reducible exact steelyardkeep_Nat.mono _ _ _)
      | (with_reducible exact LeO.refl _)
      | (with_reducible exact LeO.none _)
      | (with_reducible refine LeO.ite ?_ ?_)
      | (with_reducible refine LeO.bind ?_ (fun _ => ?_))
      | exact steelyardkeep_Nat.mono _ _ _
      | exact LeO.none _
      | refine LeO.ite ?_ ?_
      | refine LeO.bind ?_ (fun _ => ?_)
def steelyardkeep_Rat.f (k : Nat) (a0_0 : Bool) (l0_1 : List Int) (l0_2 : List Int) (a1_0 : Bool) (l1_1 : List Int) (l1_2 : List Int) : Option (Bool) := (steelyardkeep_Int.f k a0_0 l0_1 a1_0 l1_1).bind fun t1200 => (if t1200 = true then ((steelyardkeep_Nat.f k l0_2 l1_2).bind fun t1201 => (some t1201)) else (some false))
theorem steelyardkeep_Rat.mono : ∀ a0 a1 a2 a3 a4 a5 k, LeO (steelyardkeep_Rat.f k a0 a1 a2 a3 a4 a5) (steelyardkeep_Rat.f (k + 1) a0 a1 a2 a3 a4 a5) := by
  intro a0 a1 a2 a3 a4 a5 k
  unfold steelyardkeep_Rat.f
  repeat' first
      | (with_reducible exact steelyardkeep_Int.mono _ _ _ _ _)
      | (with_reducible exact steelyardkeep_Nat.mono _ _ _)
      | (with_reducible exact LeO.refl _)
      | (with_reducible exact LeO.none _)
      | (with_reducible refine LeO.ite ?_ ?_)
      | (with_reducible refine LeO.bind ?_ (fun _ => ?_))
      | exact steelyardkeep_Int.mono _ _ _ _ _
      | exact steelyardkeep_Nat.mono _ _ _
      | exact LeO.none _
      | refine LeO.ite ?_ ?_
      | refine LeO.bind ?_ (fun _ => ?_)
end Go.Proofs.YtnilfndadahgaaaDoor.P
set_option linter.unusedVariables false
set_option linter.unusedSimpArgs false
namespace Go.Proofs.YtnilfndadahgaaaDoor.P
open Go.RowKit Go.Proofs.YtnilfndadahgaaaDoorW.PrintWords Go.Proofs.YtnilfndadahgaaaDoorW.PrintLast Go.Proofs.YtnilfndadahgaaaDoorW.PrintMore
def steelyardref01_Trim.l0 : Nat → List Int → Int → Option (List Int)
  | 0, _, _ => none
  | k + 1, x0, x3 => if x3 > 0 then (if 0 ≤ (wrap64 (x3 - 1)) then (if (wrap64 (x3 - 1)) < (x0.length : Int) then (if (rd x0 (wrap64 (x3 - 1))) = 0 then (steelyardref01_Trim.l0 k x0 (wrap64 (x3 - 1))) else ((some (([] : List Int) : List Int)).bind fun y423 => (if 0 ≤ x3 then (if x3 ≤ (x0.length : Int) then (if y423.length + (x0.take (x3 : Int).toNat).length < 35184372088832 then (some (y423 ++ (x0.take (x3 : Int).toNat))) else (none)) else (none)) else (none)))) else (none)) else (none)) else ((some (([] : List Int) : List Int)).bind fun y430 => (if 0 ≤ x3 then (if x3 ≤ (x0.length : Int) then (if y430.length + (x0.take (x3 : Int).toNat).length < 35184372088832 then (some (y430 ++ (x0.take (x3 : Int).toNat))) else (none)) else (none)) else (none)))
def steelyardref01_Trim.f (k : Nat) (l0 : List Int) : Option (List Int) := steelyardref01_Trim.l0 k l0 (l0.length : Int)
theorem steelyardref01_Trim.mono_l : ∀ k, (∀ y0 y1, LeO (steelyardref01_Trim.l0 k y0 y1) (steelyardref01_Trim.l0 (k + 1) y0 y1))
  | 0 => fun _ _ r h => by simp [steelyardref01_Trim.l0] at h
  | k + 1 => by
    have ih0 := steelyardref01_Trim.mono_l k
    · intro y0 y1
      unfold steelyardref01_Trim.l0
      repeat' first
      | (with_reducible exact ih0 _ _)
      | (with_reducible exact LeO.refl _)
      | (with_reducible exact LeO.none _)
      | (with_reducible refine LeO.ite ?_ ?_)
      | (with_reducible refine LeO.bind ?_ (fun _ => ?_))
      | exact ih0 _ _
      | exact LeO.none _
      | refine LeO.ite ?_ ?_
      | refine LeO.bind ?_ (fun _ => ?_)
theorem steelyardref01_Trim.mono : ∀ a0 k, LeO (steelyardref01_Trim.f k a0) (steelyardref01_Trim.f (k + 1) a0) := by
  intro a0 k
  have ih0 := steelyardref01_Trim.mono_l k
  unfold steelyardref01_Trim.f
  repeat' first
      | (with_reducible exact ih0 _ _)
      | (with_reducible exact LeO.refl _)
      | (with_reducible exact LeO.none _)
      | (with_reducible refine LeO.ite ?_ ?_)
      | (with_reducible refine LeO.bind ?_ (fun _ => ?_))
      | exact ih0 _ _
      | exact LeO.none _
      | refine LeO.ite ?_ ?_
      | refine LeO.bind ?_ (fun _ => ?_)
def steelyardref01_at.f (l0 : List Int) (a1 : Int) : Option (Int) := if a1 ≥ (l0.length : Int) then (some 0) else (if 0 ≤ a1 then (if a1 < (l0.length : Int) then (some (IntKind.u64.wrap (rd l0 a1))) else (none)) else (none))
mutual
def steelyardref01_Add.l0 : Nat → List Int → List Int → List Int → Int → Int → Option (List Int)
  | 0, _, _, _, _, _ => none
  | k + 1, x0, x1, x5, x6, x7 => if x7 < (x0.length : Int) then (steelyardref01_Add.j1 k x0 x1 x5 x6 x7 true) else (if x7 < (x1.length : Int) then (steelyardref01_Add.j1 k x0 x1 x5 x6 x7 true) else (steelyardref01_Add.j1 k x0 x1 x5 x6 x7 (decide (x6 > 0))))
def steelyardref01_Add.j1 : Nat → List Int → List Int → List Int → Int → Int → Bool → Option (List Int)
  | 0, _, _, _, _, _, _ => none
  | k + 1, x0, x1, x5, x6, x7, x21 => if x21 = true then ((steelyardref01_at.f x0 x7).bind fun t438 => ((steelyardref01_at.f x1 x7).bind fun t439 => (if x5.length < 35184372088832 then (steelyardref01_Add.l0 k x0 x1 (x5 ++ [(IntKind.u64.wrap (x6 + (IntKind.u64.wrap (t438 + t439)))) % 4294967296]) ((IntKind.u64.wrap (x6 + (IntKind.u64.wrap (t438 + t439)))) / 4294967296) (wrap64 (x7 + 1))) else (none)))) else ((steelyardref01_Trim.f k x5).bind fun t443 => (some t443))
end
def steelyardref01_Add.f (k : Nat) (l0 : List Int) (l1 : List Int) : Option (List Int) := steelyardref01_Add.l0 k l0 l1 ([] : List Int) 0 0
theorem steelyardref01_Add.mono_l : ∀ k, (∀ y0 y1 y2 y3 y4, LeO (steelyardref01_Add.l0 k y0 y1 y2 y3 y4) (steelyardref01_Add.l0 (k + 1) y0 y1 y2 y3 y4)) ∧ (∀ y0 y1 y2 y3 y4 y5, LeO (steelyardref01_Add.j1 k y0 y1 y2 y3 y4 y5) (steelyardref01_Add.j1 (k + 1) y0 y1 y2 y3 y4 y5))
  | 0 => ⟨fun _ _ _ _ _ r h => by simp [steelyardref01_Add.l0] at h, fun _ _ _ _ _ _ r h => by simp [steelyardref01_Add.j1] at h⟩
  | k + 1 => by
    obtain ⟨ih0, ih1⟩ := steelyardref01_Add.mono_l k
    refine ⟨?_, ?_⟩
    · intro y0 y1 y2 y3 y4
      unfold steelyardref01_Add.l0
      repeat' first
      | (with_reducible exact ih0 _ _ _ _ _)
      | (with_reducible exact ih1 _ _ _ _ _ _)
      | (with_reducible exact steelyardref01_Trim.mono _ _)
      | (with_reducible exact LeO.refl _)
      | (with_reducible exact LeO.none _)
      | (with_reducible refine LeO.ite ?_ ?_)
      | (with_reducible refine LeO.bind ?_ (fun _ => ?_))
      | exact ih0 _ _ _ _ _
      | exact ih1 _ _ _ _ _ _
      | exact steelyardref01_Trim.mono _ _
      | exact LeO.none _
      | refine LeO.ite ?_ ?_
      | refine LeO.bind ?_ (fun _ => ?_)
    · intro y0 y1 y2 y3 y4 y5
      unfold steelyardref01_Add.j1
      repeat' first
      | (with_reducible exact ih0 _ _ _ _ _)
      | (with_reducible exact ih1 _ _ _ _ _ _)
      | (with_reducible exact steelyardref01_Trim.mono _ _)
      | (with_reducible exact LeO.refl _)
      | (with_reducible exact LeO.none _)
      | (with_reducible refine LeO.ite ?_ ?_)
      | (with_reducible refine LeO.bind ?_ (fun _ => ?_))
      | exact ih0 _ _ _ _ _
      | exact ih1 _ _ _ _ _ _
      | exact steelyardref01_Trim.mono _ _
      | exact LeO.none _
      | refine LeO.ite ?_ ?_
      | refine LeO.bind ?_ (fun _ => ?_)
theorem steelyardref01_Add.mono : ∀ a0 a1 k, LeO (steelyardref01_Add.f k a0 a1) (steelyardref01_Add.f (k + 1) a0 a1) := by
  intro a0 a1 k
  obtain ⟨ih0, ih1⟩ := steelyardref01_Add.mono_l k
  unfold steelyardref01_Add.f
  repeat' first
      | (with_reducible exact ih0 _ _ _ _ _)
      | (with_reducible exact ih1 _ _ _ _ _ _)
      | (with_reducible exact steelyardref01_Trim.mono _ _)
      | (with_reducible exact LeO.refl _)
      | (with_reducible exact LeO.none _)
      | (with_reducible refine LeO.ite ?_ ?_)
      | (with_reducible refine LeO.bind ?_ (fun _ => ?_))
      | exact ih0 _ _ _ _ _
      | exact ih1 _ _ _ _ _ _
      | exact steelyardref01_Trim.mono _ _
      | exact LeO.none _
      | refine LeO.ite ?_ ?_
      | refine LeO.bind ?_ (fun _ => ?_)
def steelyardref01_Cmp.l0 : Nat → List Int → List Int → Int → Option (Int)
  | 0, _, _, _ => none
  | k + 1, x0, x1, x5 => if x5 ≥ 0 then ((steelyardref01_at.f x0 x5).bind fun t493 => ((steelyardref01_at.f x1 x5).bind fun t494 => (if t493 < t494 then (some (-1)) else ((steelyardref01_at.f x0 x5).bind fun t495 => ((steelyardref01_at.f x1 x5).bind fun t496 => (if t495 > t496 then (some 1) else (steelyardref01_Cmp.l0 k x0 x1 (wrap64 (x5 - 1))))))))) else (some 0)
def steelyardref01_Cmp.f (k : Nat) (l0 : List Int) (l1 : List Int) : Option (Int) := steelyardref01_Cmp.l0 k l0 l1 (wrap64 ((mx (l0.length : Int) (l1.length : Int)) - 1))
theorem steelyardref01_Cmp.mono_l : ∀ k, (∀ y0 y1 y2, LeO (steelyardref01_Cmp.l0 k y0 y1 y2) (steelyardref01_Cmp.l0 (k + 1) y0 y1 y2))
  | 0 => fun _ _ _ r h => by simp [steelyardref01_Cmp.l0] at h
  | k + 1 => by
    have ih0 := steelyardref01_Cmp.mono_l k
    · intro y0 y1 y2
      unfold steelyardref01_Cmp.l0
      repeat' first
      | (with_reducible exact ih0 _ _ _)
      | (with_reducible exact LeO.refl _)
      | (with_reducible exact LeO.none _)
      | (with_reducible refine LeO.ite ?_ ?_)
      | (with_reducible refine LeO.bind ?_ (fun _ => ?_))
      | exact ih0 _ _ _
      | exact LeO.none _
      | refine LeO.ite ?_ ?_
      | refine LeO.bind ?_ (fun _ => ?_)
theorem steelyardref01_Cmp.mono : ∀ a0 a1 k, LeO (steelyardref01_Cmp.f k a0 a1) (steelyardref01_Cmp.f (k + 1) a0 a1) := by
  intro a0 a1 k
  have ih0 := steelyardref01_Cmp.mono_l k
  unfold steelyardref01_Cmp.f
  repeat' first
      | (with_reducible exact ih0 _ _ _)
      | (with_reducible exact LeO.refl _)
      | (with_reducible exact LeO.none _)
      | (with_reducible refine LeO.ite ?_ ?_)
      | (with_reducible refine LeO.bind ?_ (fun _ => ?_))
      | exact ih0 _ _ _
      | exact LeO.none _
      | refine LeO.ite ?_ ?_
      | refine LeO.bind ?_ (fun _ => ?_)
def steelyardref01_Sub.l0 : Nat → List Int → List Int → List Int → Int → Int → Option (List Int)
  | 0, _, _, _, _, _ => none
  | k + 1, x0, x1, x5, x6, x7 => if x7 < (x0.length : Int) then ((steelyardref01_at.f x0 x7).bind fun t500 => ((steelyardref01_at.f x1 x7).bind fun t501 => (if t500 < (IntKind.u64.wrap (t501 + x6)) then (if x5.length < 35184372088832 then (steelyardref01_Sub.l0 k x0 x1 (x5 ++ [(IntKind.u64.wrap ((IntKind.u64.wrap (t500 + 4294967296)) - (IntKind.u64.wrap (t501 + x6)))) % 4294967296]) 1 (wrap64 (x7 + 1))) else (none)) else (if x5.length < 35184372088832 then (steelyardref01_Sub.l0 k x0 x1 (x5 ++ [(IntKind.u64.wrap (t500 - (IntKind.u64.wrap (t501 + x6)))) % 4294967296]) 0 (wrap64 (x7 + 1))) else (none))))) else ((steelyardref01_Trim.f k x5).bind fun t497 => (some t497))
def steelyardref01_Sub.f (k : Nat) (l0 : List Int) (l1 : List Int) : Option (List Int) := steelyardref01_Sub.l0 k l0 l1 ([] : List Int) 0 0
theorem steelyardref01_Sub.mono_l : ∀ k, (∀ y0 y1 y2 y3 y4, LeO (steelyardref01_Sub.l0 k y0 y1 y2 y3 y4) (steelyardref01_Sub.l0 (k + 1) y0 y1 y2 y3 y4))
  | 0 => fun _ _ _ _ _ r h => by simp [steelyardref01_Sub.l0] at h
  | k + 1 => by
    have ih0 := steelyardref01_Sub.mono_l k
    · intro y0 y1 y2 y3 y4
      unfold steelyardref01_Sub.l0
      repeat' first
      | (with_reducible exact ih0 _ _ _ _ _)
      | (with_reducible exact steelyardref01_Trim.mono _ _)
      | (with_reducible exact LeO.refl _)
      | (with_reducible exact LeO.none _)
      | (with_reducible refine LeO.ite ?_ ?_)
      | (with_reducible refine LeO.bind ?_ (fun _ => ?_))
      | exact ih0 _ _ _ _ _
      | exact steelyardref01_Trim.mono _ _
      | exact LeO.none _
      | refine LeO.ite ?_ ?_
      | refine LeO.bind ?_ (fun _ => ?_)
theorem steelyardref01_Sub.mono : ∀ a0 a1 k, LeO (steelyardref01_Sub.f k a0 a1) (steelyardref01_Sub.f (k + 1) a0 a1) := by
  intro a0 a1 k
  have ih0 := steelyardref01_Sub.mono_l k
  unfold steelyardref01_Sub.f
  repeat' first
      | (with_reducible exact ih0 _ _ _ _ _)
      | (with_reducible exact steelyardref01_Trim.mono _ _)
      | (with_reducible exact LeO.refl _)
      | (with_reducible exact LeO.none _)
      | (with_reducible refine LeO.ite ?_ ?_)
      | (with_reducible refine LeO.bind ?_ (fun _ => ?_))
      | exact ih0 _ _ _ _ _
      | exact steelyardref01_Trim.mono _ _
      | exact LeO.none _
      | refine LeO.ite ?_ ?_
      | refine LeO.bind ?_ (fun _ => ?_)
def steelyardref01_Of.f (k : Nat) (a0 : Int) : Option (List Int) := (steelyardref01_Trim.f k (([(a0) % 4294967296, (a0 / 4294967296) % 4294967296] : List Int))).bind fun t642 => (some t642)
theorem steelyardref01_Of.mono : ∀ a0 k, LeO (steelyardref01_Of.f k a0) (steelyardref01_Of.f (k + 1) a0) := by
  intro a0 k
  unfold steelyardref01_Of.f
  repeat' first
      | (with_reducible exact steelyardref01_Trim.mono _ _)
      | (with_reducible exact LeO.refl _)
      | (with_reducible exact LeO.none _)
      | (with_reducible refine LeO.ite ?_ ?_)
      | (with_reducible refine LeO.bind ?_ (fun _ => ?_))
      | exact steelyardref01_Trim.mono _ _
      | exact LeO.none _
      | refine LeO.ite ?_ ?_
      | refine LeO.bind ?_ (fun _ => ?_)
def steelyardref01_Bit.f (l0 : List Int) (a1 : Int) : Option (Bool) := if a1 ≥ 0 then ((steelyardref01_at.f l0 (wrap64 (Int.tdiv a1 32))).bind fun t1204 => (if 0 ≤ (IntKind.u64.wrap (Int.tmod a1 32)) then (some ((Go.bits .and .u64 (shr .u64 t1204 (IntKind.u64.wrap (Int.tmod a1 32))) 1) == 1)) else (none))) else (some false)
def steelyardref01_Bits.l0 : Nat → List Int → Int → Option (Int)
  | 0, _, _ => none
  | k + 1, x0, x3 => if x3 > 0 then ((steelyardref01_Bit.f x0 (wrap64 (x3 - 1))).bind fun t1205 => (if t1205 = true then (some x3) else (steelyardref01_Bits.l0 k x0 (wrap64 (x3 - 1))))) else (some x3)
def steelyardref01_Bits.f (k : Nat) (l0 : List Int) : Option (Int) := steelyardref01_Bits.l0 k l0 (wrap64 (32 * (l0.length : Int)))
theorem steelyardref01_Bits.mono_l : ∀ k, (∀ y0 y1, LeO (steelyardref01_Bits.l0 k y0 y1) (steelyardref01_Bits.l0 (k + 1) y0 y1))
  | 0 => fun _ _ r h => by simp [steelyardref01_Bits.l0] at h
  | k + 1 => by
    have ih0 := steelyardref01_Bits.mono_l k
    · intro y0 y1
      unfold steelyardref01_Bits.l0
      repeat' first
      | (with_reducible exact ih0 _ _)
      | (with_reducible exact LeO.refl _)
      | (with_reducible exact LeO.none _)
      | (with_reducible refine LeO.ite ?_ ?_)
      | (with_reducible refine LeO.bind ?_ (fun _ => ?_))
      | exact ih0 _ _
      | exact LeO.none _
      | refine LeO.ite ?_ ?_
      | refine LeO.bind ?_ (fun _ => ?_)
theorem steelyardref01_Bits.mono : ∀ a0 k, LeO (steelyardref01_Bits.f k a0) (steelyardref01_Bits.f (k + 1) a0) := by
  intro a0 k
  have ih0 := steelyardref01_Bits.mono_l k
  unfold steelyardref01_Bits.f
  repeat' first
      | (with_reducible exact ih0 _ _)
      | (with_reducible exact LeO.refl _)
      | (with_reducible exact LeO.none _)
      | (with_reducible refine LeO.ite ?_ ?_)
      | (with_reducible refine LeO.bind ?_ (fun _ => ?_))
      | exact ih0 _ _
      | exact LeO.none _
      | refine LeO.ite ?_ ?_
      | refine LeO.bind ?_ (fun _ => ?_)
end Go.Proofs.YtnilfndadahgaaaDoor.P
set_option linter.unusedVariables false
set_option linter.unusedSimpArgs false
namespace Go.Proofs.YtnilfndadahgaaaDoor.P
open Go.RowKit Go.Proofs.YtnilfndadahgaaaDoorW.PrintWords Go.Proofs.YtnilfndadahgaaaDoorW.PrintLast Go.Proofs.YtnilfndadahgaaaDoorW.PrintMore
def steelyardref02_Small.l0 : Nat → List Int → Int → List Int → Int → Int → Option (List Int)
  | 0, _, _, _, _, _ => none
  | k + 1, x0, x1, x5, x6, x7 => if x7 < (x0.length : Int) then (if 0 ≤ x7 then (if x5.length < 35184372088832 then (steelyardref02_Small.l0 k x0 x1 (x5 ++ [(IntKind.u64.wrap (x6 + (IntKind.u64.wrap ((IntKind.u64.wrap (rd x0 x7)) * (IntKind.u64.wrap (x1)))))) % 4294967296]) ((IntKind.u64.wrap (x6 + (IntKind.u64.wrap ((IntKind.u64.wrap (rd x0 x7)) * (IntKind.u64.wrap (x1)))))) / 4294967296) (wrap64 (x7 + 1))) else (none)) else (none)) else (if x5.length < 35184372088832 then ((steelyardref01_Trim.f k (x5 ++ [(x6) % 4294967296])).bind fun t453 => (some t453)) else (none))
def steelyardref02_Small.f (k : Nat) (l0 : List Int) (a1 : Int) : Option (List Int) := steelyardref02_Small.l0 k l0 a1 ([] : List Int) 0 0
theorem steelyardref02_Small.mono_l : ∀ k, (∀ y0 y1 y2 y3 y4, LeO (steelyardref02_Small.l0 k y0 y1 y2 y3 y4) (steelyardref02_Small.l0 (k + 1) y0 y1 y2 y3 y4))
  | 0 => fun _ _ _ _ _ r h => by simp [steelyardref02_Small.l0] at h
  | k + 1 => by
    have ih0 := steelyardref02_Small.mono_l k
    · intro y0 y1 y2 y3 y4
      unfold steelyardref02_Small.l0
      repeat' first
      | (with_reducible exact ih0 _ _ _ _ _)
      | (with_reducible exact steelyardref01_Trim.mono _ _)
      | (with_reducible exact LeO.refl _)
      | (with_reducible exact LeO.none _)
      | (with_reducible refine LeO.ite ?_ ?_)
      | (with_reducible refine LeO.bind ?_ (fun _ => ?_))
      | exact ih0 _ _ _ _ _
      | exact steelyardref01_Trim.mono _ _
      | exact LeO.none _
      | refine LeO.ite ?_ ?_
      | refine LeO.bind ?_ (fun _ => ?_)
theorem steelyardref02_Small.mono : ∀ a0 a1 k, LeO (steelyardref02_Small.f k a0 a1) (steelyardref02_Small.f (k + 1) a0 a1) := by
  intro a0 a1 k
  have ih0 := steelyardref02_Small.mono_l k
  unfold steelyardref02_Small.f
  repeat' first
      | (with_reducible exact ih0 _ _ _ _ _)
      | (with_reducible exact steelyardref01_Trim.mono _ _)
      | (with_reducible exact LeO.refl _)
      | (with_reducible exact LeO.none _)
      | (with_reducible refine LeO.ite ?_ ?_)
      | (with_reducible refine LeO.bind ?_ (fun _ => ?_))
      | exact ih0 _ _ _ _ _
      | exact steelyardref01_Trim.mono _ _
      | exact LeO.none _
      | refine LeO.ite ?_ ?_
      | refine LeO.bind ?_ (fun _ => ?_)
def steelyardref02_Up.l0 : Nat → List Int → Int → List Int → Int → Int → Option (List Int)
  | 0, _, _, _, _, _ => none
  | k + 1, x0, x1, x5, x6, x7 => if x7 < (x0.length : Int) then (if 0 ≤ x7 then (if 0 ≤ (IntKind.u64.wrap (Int.tmod x1 32)) then (if x5.length < 35184372088832 then (steelyardref02_Up.l0 k x0 x1 (x5 ++ [(Go.bits .or .u64 x6 (shl .u64 (IntKind.u64.wrap (rd x0 x7)) (IntKind.u64.wrap (Int.tmod x1 32)))) % 4294967296]) ((Go.bits .or .u64 x6 (shl .u64 (IntKind.u64.wrap (rd x0 x7)) (IntKind.u64.wrap (Int.tmod x1 32)))) / 4294967296) (wrap64 (x7 + 1))) else (none)) else (none)) else (none)) else (if x5.length < 35184372088832 then ((steelyardref01_Trim.f k (x5 ++ [(x6) % 4294967296])).bind fun t553 => (some t553)) else (none))
def steelyardref02_Up.f (k : Nat) (l0 : List Int) (a1 : Int) : Option (List Int) := if 0 ≤ (wrap64 (Int.tdiv a1 32)) then (if (wrap64 (Int.tdiv a1 32)) ≤ (wrap64 ((wrap64 ((wrap64 (Int.tdiv a1 32)) + (l0.length : Int))) + 1)) then (if (wrap64 ((wrap64 ((wrap64 (Int.tdiv a1 32)) + (l0.length : Int))) + 1) : Int).toNat ≤ 70368744177664 then (steelyardref02_Up.l0 k l0 a1 (List.replicate (wrap64 (Int.tdiv a1 32) : Int).toNat 0) 0 0) else (none)) else (none)) else (none)
theorem steelyardref02_Up.mono_l : ∀ k, (∀ y0 y1 y2 y3 y4, LeO (steelyardref02_Up.l0 k y0 y1 y2 y3 y4) (steelyardref02_Up.l0 (k + 1) y0 y1 y2 y3 y4))
  | 0 => fun _ _ _ _ _ r h => by simp [steelyardref02_Up.l0] at h
  | k + 1 => by
    have ih0 := steelyardref02_Up.mono_l k
    · intro y0 y1 y2 y3 y4
      unfold steelyardref02_Up.l0
      repeat' first
      | (with_reducible exact ih0 _ _ _ _ _)
      | (with_reducible exact steelyardref01_Trim.mono _ _)
      | (with_reducible exact LeO.refl _)
      | (with_reducible exact LeO.none _)
      | (with_reducible refine LeO.ite ?_ ?_)
      | (with_reducible refine LeO.bind ?_ (fun _ => ?_))
      | exact ih0 _ _ _ _ _
      | exact steelyardref01_Trim.mono _ _
      | exact LeO.none _
      | refine LeO.ite ?_ ?_
      | refine LeO.bind ?_ (fun _ => ?_)
theorem steelyardref02_Up.mono : ∀ a0 a1 k, LeO (steelyardref02_Up.f k a0 a1) (steelyardref02_Up.f (k + 1) a0 a1) := by
  intro a0 a1 k
  have ih0 := steelyardref02_Up.mono_l k
  unfold steelyardref02_Up.f
  repeat' first
      | (with_reducible exact ih0 _ _ _ _ _)
      | (with_reducible exact steelyardref01_Trim.mono _ _)
      | (with_reducible exact LeO.refl _)
      | (with_reducible exact LeO.none _)
      | (with_reducible refine LeO.ite ?_ ?_)
      | (with_reducible refine LeO.bind ?_ (fun _ => ?_))
      | exact ih0 _ _ _ _ _
      | exact steelyardref01_Trim.mono _ _
      | exact LeO.none _
      | refine LeO.ite ?_ ?_
      | refine LeO.bind ?_ (fun _ => ?_)
def steelyardref02_Of.l0 : Nat → List Int → List Int → List Int → Int → Option (List Int)
  | 0, _, _, _, _ => none
  | k + 1, x0, x1, x5, x6 => if x6 < (x1.length : Int) then (if 0 ≤ x6 then ((steelyardref02_Small.f k x0 (rd x1 x6)).bind fun t557 => ((steelyardref02_Up.f k t557 (wrap64 (32 * x6))).bind fun t560 => ((steelyardref01_Add.f k x5 t560).bind fun t563 => (steelyardref02_Of.l0 k x0 x1 t563 (wrap64 (x6 + 1)))))) else (none)) else ((steelyardref01_Trim.f k x5).bind fun t566 => (some t566))
def steelyardref02_Of.f (k : Nat) (l0 : List Int) (l1 : List Int) : Option (List Int) := steelyardref02_Of.l0 k l0 l1 ([] : List Int) 0
theorem steelyardref02_Of.mono_l : ∀ k, (∀ y0 y1 y2 y3, LeO (steelyardref02_Of.l0 k y0 y1 y2 y3) (steelyardref02_Of.l0 (k + 1) y0 y1 y2 y3))
  | 0 => fun _ _ _ _ r h => by simp [steelyardref02_Of.l0] at h
  | k + 1 => by
    have ih0 := steelyardref02_Of.mono_l k
    · intro y0 y1 y2 y3
      unfold steelyardref02_Of.l0
      repeat' first
      | (with_reducible exact ih0 _ _ _ _)
      | (with_reducible exact steelyardref01_Add.mono _ _ _)
      | (with_reducible exact steelyardref01_Trim.mono _ _)
      | (with_reducible exact steelyardref02_Small.mono _ _ _)
      | (with_reducible exact steelyardref02_Up.mono _ _ _)
      | (with_reducible exact LeO.refl _)
      | (with_reducible exact LeO.none _)
      | (with_reducible refine LeO.ite ?_ ?_)
      | (with_reducible refine LeO.bind ?_ (fun _ => ?_))
      | exact ih0 _ _ _ _
      | exact steelyardref01_Add.mono _ _ _
      | exact steelyardref01_Trim.mono _ _
      | exact steelyardref02_Small.mono _ _ _
      | exact steelyardref02_Up.mono _ _ _
      | exact LeO.none _
      | refine LeO.ite ?_ ?_
      | refine LeO.bind ?_ (fun _ => ?_)
theorem steelyardref02_Of.mono : ∀ a0 a1 k, LeO (steelyardref02_Of.f k a0 a1) (steelyardref02_Of.f (k + 1) a0 a1) := by
  intro a0 a1 k
  have ih0 := steelyardref02_Of.mono_l k
  unfold steelyardref02_Of.f
  repeat' first
      | (with_reducible exact ih0 _ _ _ _)
      | (with_reducible exact steelyardref01_Add.mono _ _ _)
      | (with_reducible exact steelyardref01_Trim.mono _ _)
      | (with_reducible exact steelyardref02_Small.mono _ _ _)
      | (with_reducible exact steelyardref02_Up.mono _ _ _)
      | (with_reducible exact LeO.refl _)
      | (with_reducible exact LeO.none _)
      | (with_reducible refine LeO.ite ?_ ?_)
      | (with_reducible refine LeO.bind ?_ (fun _ => ?_))
      | exact ih0 _ _ _ _
      | exact steelyardref01_Add.mono _ _ _
      | exact steelyardref01_Trim.mono _ _
      | exact steelyardref02_Small.mono _ _ _
      | exact steelyardref02_Up.mono _ _ _
      | exact LeO.none _
      | refine LeO.ite ?_ ?_
      | refine LeO.bind ?_ (fun _ => ?_)
def steelyardref02_Down.l0 : Nat → List Int → Int → List Int → Int → Option (List Int)
  | 0, _, _, _, _ => none
  | k + 1, x0, x1, x5, x6 => if x6 < (x0.length : Int) then (if 0 ≤ x6 then (if (wrap64 (x6 + 1)) < (x0.length : Int) then (if 0 ≤ (wrap64 (x6 + 1)) then (if 0 ≤ (IntKind.u64.wrap (Int.tmod x1 32)) then (if x5.length < 35184372088832 then (steelyardref02_Down.l0 k x0 x1 (x5 ++ [(shr .u64 (Go.bits .or .u64 (IntKind.u64.wrap (rd x0 x6)) (IntKind.u64.wrap ((IntKind.u64.wrap (rd x0 (wrap64 (x6 + 1)))) * 4294967296))) (IntKind.u64.wrap (Int.tmod x1 32))) % 4294967296]) (wrap64 (x6 + 1))) else (none)) else (none)) else (none)) else (if 0 ≤ (IntKind.u64.wrap (Int.tmod x1 32)) then (if x5.length < 35184372088832 then (steelyardref02_Down.l0 k x0 x1 (x5 ++ [(shr .u64 (IntKind.u64.wrap (rd x0 x6)) (IntKind.u64.wrap (Int.tmod x1 32))) % 4294967296]) (wrap64 (x6 + 1))) else (none)) else (none))) else (none)) else ((steelyardref01_Trim.f k x5).bind fun t1214 => (some t1214))
def steelyardref02_Down.f (k : Nat) (l0 : List Int) (a1 : Int) : Option (List Int) := steelyardref02_Down.l0 k l0 a1 ([] : List Int) (wrap64 (Int.tdiv a1 32))
theorem steelyardref02_Down.mono_l : ∀ k, (∀ y0 y1 y2 y3, LeO (steelyardref02_Down.l0 k y0 y1 y2 y3) (steelyardref02_Down.l0 (k + 1) y0 y1 y2 y3))
  | 0 => fun _ _ _ _ r h => by simp [steelyardref02_Down.l0] at h
  | k + 1 => by
    have ih0 := steelyardref02_Down.mono_l k
    · intro y0 y1 y2 y3
      unfold steelyardref02_Down.l0
      repeat' first
      | (with_reducible exact ih0 _ _ _ _)
      | (with_reducible exact steelyardref01_Trim.mono _ _)
      | (with_reducible exact LeO.refl _)
      | (with_reducible exact LeO.none _)
      | (with_reducible refine LeO.ite ?_ ?_)
      | (with_reducible refine LeO.bind ?_ (fun _ => ?_))
      | exact ih0 _ _ _ _
      | exact steelyardref01_Trim.mono _ _
      | exact LeO.none _
      | refine LeO.ite ?_ ?_
      | refine LeO.bind ?_ (fun _ => ?_)
theorem steelyardref02_Down.mono : ∀ a0 a1 k, LeO (steelyardref02_Down.f k a0 a1) (steelyardref02_Down.f (k + 1) a0 a1) := by
  intro a0 a1 k
  have ih0 := steelyardref02_Down.mono_l k
  unfold steelyardref02_Down.f
  repeat' first
      | (with_reducible exact ih0 _ _ _ _)
      | (with_reducible exact steelyardref01_Trim.mono _ _)
      | (with_reducible exact LeO.refl _)
      | (with_reducible exact LeO.none _)
      | (with_reducible refine LeO.ite ?_ ?_)
      | (with_reducible refine LeO.bind ?_ (fun _ => ?_))
      | exact ih0 _ _ _ _
      | exact steelyardref01_Trim.mono _ _
      | exact LeO.none _
      | refine LeO.ite ?_ ?_
      | refine LeO.bind ?_ (fun _ => ?_)
end Go.Proofs.YtnilfndadahgaaaDoor.P
set_option linter.unusedVariables false
set_option linter.unusedSimpArgs false
namespace Go.Proofs.YtnilfndadahgaaaDoor.P
open Go.RowKit Go.Proofs.YtnilfndadahgaaaDoorW.PrintWords Go.Proofs.YtnilfndadahgaaaDoorW.PrintLast Go.Proofs.YtnilfndadahgaaaDoorW.PrintMore
mutual
def steelyardref05_Parse.j0 : Nat → ByteArray → Bool → Option (List Int × Bool)
  | 0, _, _ => none
  | k + 1, x0, x12 => if x12 = true then (some (([] : List Int), false)) else (steelyardref05_Parse.l0 k x0 ([] : List Int) 0)
def steelyardref05_Parse.l0 : Nat → ByteArray → List Int → Int → Option (List Int × Bool)
  | 0, _, _, _ => none
  | k + 1, x0, x3, x4 => if x4 < (x0.size : Int) then (if 0 ≤ x4 then (if (bt x0 x4) < 48 then (steelyardref05_Parse.j2 k x0 x3 x4 true) else (steelyardref05_Parse.j2 k x0 x3 x4 (decide ((bt x0 x4) > 57)))) else (none)) else ((steelyardref01_Trim.f k x3).bind fun t457 => (some (t457, true)))
def steelyardref05_Parse.j2 : Nat → ByteArray → List Int → Int → Bool → Option (List Int × Bool)
  | 0, _, _, _, _ => none
  | k + 1, x0, x3, x4, x29 => if x29 = true then (some (([] : List Int), false)) else ((steelyardref02_Small.f k x3 10).bind fun t460 => (if 0 ≤ x4 then (if x4 < (x0.size : Int) then ((steelyardref01_Add.f k t460 (([((bt x0 x4) - 48) % 256] : List Int))).bind fun t466 => (steelyardref05_Parse.l0 k x0 t466 (wrap64 (x4 + 1)))) else (none)) else (none)))
end
def steelyardref05_Parse.f (k : Nat) (a0 : ByteArray) : Option (List Int × Bool) := if (a0.size : Int) < 1 then (steelyardref05_Parse.j0 k a0 true) else (steelyardref05_Parse.j0 k a0 (decide ((a0.size : Int) > 2000)))
theorem steelyardref05_Parse.mono_l : ∀ k, (∀ y0 y1, LeO (steelyardref05_Parse.j0 k y0 y1) (steelyardref05_Parse.j0 (k + 1) y0 y1)) ∧ (∀ y0 y1 y2, LeO (steelyardref05_Parse.l0 k y0 y1 y2) (steelyardref05_Parse.l0 (k + 1) y0 y1 y2)) ∧ (∀ y0 y1 y2 y3, LeO (steelyardref05_Parse.j2 k y0 y1 y2 y3) (steelyardref05_Parse.j2 (k + 1) y0 y1 y2 y3))
  | 0 => ⟨fun _ _ r h => by simp [steelyardref05_Parse.j0] at h, fun _ _ _ r h => by simp [steelyardref05_Parse.l0] at h, fun _ _ _ _ r h => by simp [steelyardref05_Parse.j2] at h⟩
  | k + 1 => by
    obtain ⟨ih0, ih1, ih2⟩ := steelyardref05_Parse.mono_l k
    refine ⟨?_, ?_, ?_⟩
    · intro y0 y1
      unfold steelyardref05_Parse.j0
      repeat' first
      | (with_reducible exact ih0 _ _)
      | (with_reducible exact ih1 _ _ _)
      | (with_reducible exact ih2 _ _ _ _)
      | (with_reducible exact steelyardref01_Add.mono _ _ _)
      | (with_reducible exact steelyardref01_Trim.mono _ _)
      | (with_reducible exact steelyardref02_Small.mono _ _ _)
      | (with_reducible exact LeO.refl _)
      | (with_reducible exact LeO.none _)
      | (with_reducible refine LeO.ite ?_ ?_)
      | (with_reducible refine LeO.bind ?_ (fun _ => ?_))
      | exact ih0 _ _
      | exact ih1 _ _ _
      | exact ih2 _ _ _ _
      | exact steelyardref01_Add.mono _ _ _
      | exact steelyardref01_Trim.mono _ _
      | exact steelyardref02_Small.mono _ _ _
      | exact LeO.none _
      | refine LeO.ite ?_ ?_
      | refine LeO.bind ?_ (fun _ => ?_)
    · intro y0 y1 y2
      unfold steelyardref05_Parse.l0
      repeat' first
      | (with_reducible exact ih0 _ _)
      | (with_reducible exact ih1 _ _ _)
      | (with_reducible exact ih2 _ _ _ _)
      | (with_reducible exact steelyardref01_Add.mono _ _ _)
      | (with_reducible exact steelyardref01_Trim.mono _ _)
      | (with_reducible exact steelyardref02_Small.mono _ _ _)
      | (with_reducible exact LeO.refl _)
      | (with_reducible exact LeO.none _)
      | (with_reducible refine LeO.ite ?_ ?_)
      | (with_reducible refine LeO.bind ?_ (fun _ => ?_))
      | exact ih0 _ _
      | exact ih1 _ _ _
      | exact ih2 _ _ _ _
      | exact steelyardref01_Add.mono _ _ _
      | exact steelyardref01_Trim.mono _ _
      | exact steelyardref02_Small.mono _ _ _
      | exact LeO.none _
      | refine LeO.ite ?_ ?_
      | refine LeO.bind ?_ (fun _ => ?_)
    · intro y0 y1 y2 y3
      unfold steelyardref05_Parse.j2
      repeat' first
      | (with_reducible exact ih0 _ _)
      | (with_reducible exact ih1 _ _ _)
      | (with_reducible exact ih2 _ _ _ _)
      | (with_reducible exact steelyardref01_Add.mono _ _ _)
      | (with_reducible exact steelyardref01_Trim.mono _ _)
      | (with_reducible exact steelyardref02_Small.mono _ _ _)
      | (with_reducible exact LeO.refl _)
      | (with_reducible exact LeO.none _)
      | (with_reducible refine LeO.ite ?_ ?_)
      | (with_reducible refine LeO.bind ?_ (fun _ => ?_))
      | exact ih0 _ _
      | exact ih1 _ _ _
      | exact ih2 _ _ _ _
      | exact steelyardref01_Add.mono _ _ _
      | exact steelyardref01_Trim.mono _ _
      | exact steelyardref02_Small.mono _ _ _
      | exact LeO.none _
      | refine LeO.ite ?_ ?_
      | refine LeO.bind ?_ (fun _ => ?_)
theorem steelyardref05_Parse.mono : ∀ a0 k, LeO (steelyardref05_Parse.f k a0) (steelyardref05_Parse.f (k + 1) a0) := by
  intro a0 k
  obtain ⟨ih0, ih1, ih2⟩ := steelyardref05_Parse.mono_l k
  unfold steelyardref05_Parse.f
  repeat' first
      | (with_reducible exact ih0 _ _)
      | (with_reducible exact ih1 _ _ _)
      | (with_reducible exact ih2 _ _ _ _)
      | (with_reducible exact steelyardref01_Add.mono _ _ _)
      | (with_reducible exact steelyardref01_Trim.mono _ _)
      | (with_reducible exact steelyardref02_Small.mono _ _ _)
      | (with_reducible exact LeO.refl _)
      | (with_reducible exact LeO.none _)
      | (with_reducible refine LeO.ite ?_ ?_)
      | (with_reducible refine LeO.bind ?_ (fun _ => ?_))
      | exact ih0 _ _
      | exact ih1 _ _ _
      | exact ih2 _ _ _ _
      | exact steelyardref01_Add.mono _ _ _
      | exact steelyardref01_Trim.mono _ _
      | exact steelyardref02_Small.mono _ _ _
      | exact LeO.none _
      | refine LeO.ite ?_ ?_
      | refine LeO.bind ?_ (fun _ => ?_)
def steelyardref05_Ten.l0 : Nat → Int → List Int → Int → Option (List Int)
  | 0, _, _, _ => none
  | k + 1, x0, x3, x4 => if x4 < x0 then ((steelyardref02_Small.f k x3 10).bind fun t1437 => (steelyardref05_Ten.l0 k x0 t1437 (wrap64 (x4 + 1)))) else (some x3)
def steelyardref05_Ten.f (k : Nat) (a0 : Int) : Option (List Int) := steelyardref05_Ten.l0 k a0 (([1] : List Int)) 0
theorem steelyardref05_Ten.mono_l : ∀ k, (∀ y0 y1 y2, LeO (steelyardref05_Ten.l0 k y0 y1 y2) (steelyardref05_Ten.l0 (k + 1) y0 y1 y2))
  | 0 => fun _ _ _ r h => by simp [steelyardref05_Ten.l0] at h
  | k + 1 => by
    have ih0 := steelyardref05_Ten.mono_l k
    · intro y0 y1 y2
      unfold steelyardref05_Ten.l0
      repeat' first
      | (with_reducible exact ih0 _ _ _)
      | (with_reducible exact steelyardref02_Small.mono _ _ _)
      | (with_reducible exact LeO.refl _)
      | (with_reducible exact LeO.none _)
      | (with_reducible refine LeO.ite ?_ ?_)
      | (with_reducible refine LeO.bind ?_ (fun _ => ?_))
      | exact ih0 _ _ _
      | exact steelyardref02_Small.mono _ _ _
      | exact LeO.none _
      | refine LeO.ite ?_ ?_
      | refine LeO.bind ?_ (fun _ => ?_)
theorem steelyardref05_Ten.mono : ∀ a0 k, LeO (steelyardref05_Ten.f k a0) (steelyardref05_Ten.f (k + 1) a0) := by
  intro a0 k
  have ih0 := steelyardref05_Ten.mono_l k
  unfold steelyardref05_Ten.f
  repeat' first
      | (with_reducible exact ih0 _ _ _)
      | (with_reducible exact steelyardref02_Small.mono _ _ _)
      | (with_reducible exact LeO.refl _)
      | (with_reducible exact LeO.none _)
      | (with_reducible refine LeO.ite ?_ ?_)
      | (with_reducible refine LeO.bind ?_ (fun _ => ?_))
      | exact ih0 _ _ _
      | exact steelyardref02_Small.mono _ _ _
      | exact LeO.none _
      | refine LeO.ite ?_ ?_
      | refine LeO.bind ?_ (fun _ => ?_)
end Go.Proofs.YtnilfndadahgaaaDoor.P
set_option linter.unusedVariables false
set_option linter.unusedSimpArgs false
namespace Go.Proofs.YtnilfndadahgaaaDoor.P
open Go.RowKit Go.Proofs.YtnilfndadahgaaaDoorW.PrintWords Go.Proofs.YtnilfndadahgaaaDoorW.PrintLast Go.Proofs.YtnilfndadahgaaaDoorW.PrintMore
def steelyardref06_Make.f (k : Nat) (a0 : Bool) (l1 : List Int) : Option (Bool × List Int) := (steelyardref01_Trim.f k l1).bind fun t470 => (if a0 = true then (some (decide ((t470.length : Int) > 0), t470)) else (some (false, t470)))
theorem steelyardref06_Make.mono : ∀ a0 a1 k, LeO (steelyardref06_Make.f k a0 a1) (steelyardref06_Make.f (k + 1) a0 a1) := by
  intro a0 a1 k
  unfold steelyardref06_Make.f
  repeat' first
      | (with_reducible exact steelyardref01_Trim.mono _ _)
      | (with_reducible exact LeO.refl _)
      | (with_reducible exact LeO.none _)
      | (with_reducible refine LeO.ite ?_ ?_)
      | (with_reducible refine LeO.bind ?_ (fun _ => ?_))
      | exact steelyardref01_Trim.mono _ _
      | exact LeO.none _
      | refine LeO.ite ?_ ?_
      | refine LeO.bind ?_ (fun _ => ?_)
def steelyardref06_Trim.f (k : Nat) (a0_0 : Bool) (l0_1 : List Int) : Option (Bool × List Int) := (steelyardref06_Make.f k a0_0 l0_1).bind fun bt489 => (some (bt489.1, bt489.2))
theorem steelyardref06_Trim.mono : ∀ a0 a1 k, LeO (steelyardref06_Trim.f k a0 a1) (steelyardref06_Trim.f (k + 1) a0 a1) := by
  intro a0 a1 k
  unfold steelyardref06_Trim.f
  repeat' first
      | (with_reducible exact steelyardref06_Make.mono _ _ _)
      | (with_reducible exact LeO.refl _)
      | (with_reducible exact LeO.none _)
      | (with_reducible refine LeO.ite ?_ ?_)
      | (with_reducible refine LeO.bind ?_ (fun _ => ?_))
      | exact steelyardref06_Make.mono _ _ _
      | exact LeO.none _
      | refine LeO.ite ?_ ?_
      | refine LeO.bind ?_ (fun _ => ?_)
def steelyardref06_Mul.f (k : Nat) (a0_0 : Bool) (l0_1 : List Int) (a1_0 : Bool) (l1_1 : List Int) : Option (Bool × List Int) := (steelyardref06_Trim.f k a0_0 l0_1).bind fun bt572 => ((steelyardref06_Trim.f k a1_0 l1_1).bind fun bt576 => ((steelyardref02_Of.f k l0_1 l1_1).bind fun t580 => ((steelyardref06_Make.f k (bt572.1 != bt576.1) t580).bind fun bt583 => (some (bt583.1, bt583.2)))))
theorem steelyardref06_Mul.mono : ∀ a0 a1 a2 a3 k, LeO (steelyardref06_Mul.f k a0 a1 a2 a3) (steelyardref06_Mul.f (k + 1) a0 a1 a2 a3) := by
  intro a0 a1 a2 a3 k
  unfold steelyardref06_Mul.f
  repeat' first
      | (with_reducible exact steelyardref02_Of.mono _ _ _)
      | (with_reducible exact steelyardref06_Make.mono _ _ _)
      | (with_reducible exact steelyardref06_Trim.mono _ _ _)
      | (with_reducible exact LeO.refl _)
      | (with_reducible exact LeO.none _)
      | (with_reducible refine LeO.ite ?_ ?_)
      | (with_reducible refine LeO.bind ?_ (fun _ => ?_))
      | exact steelyardref02_Of.mono _ _ _
      | exact steelyardref06_Make.mono _ _ _
      | exact steelyardref06_Trim.mono _ _ _
      | exact LeO.none _
      | refine LeO.ite ?_ ?_
      | refine LeO.bind ?_ (fun _ => ?_)
def steelyardref06_Of.f (k : Nat) (a0 : Int) : Option (Bool × List Int) := if a0 < 0 then ((steelyardref01_Of.f k (IntKind.u64.wrap ((IntKind.u64.wrap (wrap64 (-(wrap64 (a0 + 1))))) + 1))).bind fun t646 => ((steelyardref06_Make.f k true t646).bind fun bt649 => (some (bt649.1, bt649.2)))) else ((steelyardref01_Of.f k (IntKind.u64.wrap (a0))).bind fun t653 => ((steelyardref06_Make.f k false t653).bind fun bt656 => (some (bt656.1, bt656.2))))
theorem steelyardref06_Of.mono : ∀ a0 k, LeO (steelyardref06_Of.f k a0) (steelyardref06_Of.f (k + 1) a0) := by
  intro a0 k
  unfold steelyardref06_Of.f
  repeat' first
      | (with_reducible exact steelyardref01_Of.mono _ _)
      | (with_reducible exact steelyardref06_Make.mono _ _ _)
      | (with_reducible exact LeO.refl _)
      | (with_reducible exact LeO.none _)
      | (with_reducible refine LeO.ite ?_ ?_)
      | (with_reducible refine LeO.bind ?_ (fun _ => ?_))
      | exact steelyardref01_Of.mono _ _
      | exact steelyardref06_Make.mono _ _ _
      | exact LeO.none _
      | refine LeO.ite ?_ ?_
      | refine LeO.bind ?_ (fun _ => ?_)
end Go.Proofs.YtnilfndadahgaaaDoor.P
set_option linter.unusedVariables false
set_option linter.unusedSimpArgs false
namespace Go.Proofs.YtnilfndadahgaaaDoor.P
open Go.RowKit Go.Proofs.YtnilfndadahgaaaDoorW.PrintWords Go.Proofs.YtnilfndadahgaaaDoorW.PrintLast Go.Proofs.YtnilfndadahgaaaDoorW.PrintMore
def quo_less.l0 : Nat → List Int → List Int → Int → Option (List Int × Int)
  | 0, _, _, _ => none
  | k + 1, x0, x1, x2 => (mul_Small.f k x1 x2).bind fun t1075 => ((nat_Sub.f k x0 t1075).bind fun bt1078 => (if bt1078.2 = true then (some (bt1078.1, x2)) else (quo_less.l0 k x0 x1 ((x2 - 1) % 4294967296))))
def quo_less.f (k : Nat) (l0 : List Int) (l1 : List Int) (a2 : Int) : Option (List Int × Int) := quo_less.l0 k l0 l1 a2
theorem quo_less.mono_l : ∀ k, (∀ y0 y1 y2, LeO (quo_less.l0 k y0 y1 y2) (quo_less.l0 (k + 1) y0 y1 y2))
  | 0 => fun _ _ _ r h => by simp [quo_less.l0] at h
  | k + 1 => by
    have ih0 := quo_less.mono_l k
    · intro y0 y1 y2
      unfold quo_less.l0
      repeat' first
      | (with_reducible exact ih0 _ _ _)
      | (with_reducible exact mul_Small.mono _ _ _)
      | (with_reducible exact nat_Sub.mono _ _ _)
      | (with_reducible exact LeO.refl _)
      | (with_reducible exact LeO.none _)
      | (with_reducible refine LeO.ite ?_ ?_)
      | (with_reducible refine LeO.bind ?_ (fun _ => ?_))
      | exact ih0 _ _ _
      | exact mul_Small.mono _ _ _
      | exact nat_Sub.mono _ _ _
      | exact LeO.none _
      | refine LeO.ite ?_ ?_
      | refine LeO.bind ?_ (fun _ => ?_)
theorem quo_less.mono : ∀ a0 a1 a2 k, LeO (quo_less.f k a0 a1 a2) (quo_less.f (k + 1) a0 a1 a2) := by
  intro a0 a1 a2 k
  have ih0 := quo_less.mono_l k
  unfold quo_less.f
  repeat' first
      | (with_reducible exact ih0 _ _ _)
      | (with_reducible exact mul_Small.mono _ _ _)
      | (with_reducible exact nat_Sub.mono _ _ _)
      | (with_reducible exact LeO.refl _)
      | (with_reducible exact LeO.none _)
      | (with_reducible refine LeO.ite ?_ ?_)
      | (with_reducible refine LeO.bind ?_ (fun _ => ?_))
      | exact ih0 _ _ _
      | exact mul_Small.mono _ _ _
      | exact nat_Sub.mono _ _ _
      | exact LeO.none _
      | refine LeO.ite ?_ ?_
      | refine LeO.bind ?_ (fun _ => ?_)
def quo_guess.f (l0 : List Int) (l1 : List Int) : Option (Int) := if 0 ≤ (l1.length : Int) then (if (l1.length : Int) < (l0.length : Int) then (if 0 ≤ (wrap64 ((l1.length : Int) - 1)) then (if (wrap64 ((l1.length : Int) - 1)) < (l0.length : Int) then (if (wrap64 ((l1.length : Int) - 1)) < (l1.length : Int) then (if (IntKind.u64.wrap (rd l1 (wrap64 ((l1.length : Int) - 1)))) = 0 then (none) else (some ((mn (IntKind.u64.wrap (Int.tdiv (Go.bits .or .u64 (IntKind.u64.wrap ((IntKind.u64.wrap (rd l0 (l1.length : Int))) * 4294967296)) (IntKind.u64.wrap (rd l0 (wrap64 ((l1.length : Int) - 1))))) (IntKind.u64.wrap (rd l1 (wrap64 ((l1.length : Int) - 1)))))) 4294967295) % 4294967296))) else (none)) else (none)) else (none)) else (none)) else (none)
def quo_Rem.l0 : Nat → List Int → List Int → List Int → Int → List Int → Int → Option (List Int × List Int × Bool)
  | 0, _, _, _, _, _, _ => none
  | k + 1, x0, x1, x4, x7, x8, x9 => if x9 ≥ 0 then (if 0 ≤ (wrap64 ((x1.length : Int) + 1)) then (if (wrap64 ((x1.length : Int) + 1) : Int).toNat ≤ 70368744177664 then ((some (List.replicate (wrap64 ((x1.length : Int) + 1) : Int).toNat 0 : List Int)).bind fun y1102 => (if 1 ≤ (y1102.length : Int) then (if 0 ≤ x9 then (if x9 < (x0.length : Int) then (if 0 < (y1102.length : Int) then ((some ((cpy y1102 1 x8).set (0 : Int).toNat (rd x0 x9) : List Int)).bind fun y1111 => ((quo_guess.f y1111 x1).bind fun t1112 => ((quo_less.f k y1111 x1 t1112).bind fun bt1113 => (if x9 < (x4.length : Int) then (quo_Rem.l0 k x0 x1 (x4.set (x9 : Int).toNat bt1113.2) x7 bt1113.1 (wrap64 (x9 - 1))) else (none))))) else (none)) else (none)) else (none)) else (none))) else (none)) else (none)) else ((nat_Trim.f k x4).bind fun t1118 => ((mul_Shift.f k x8 (wrap64 (-x7))).bind fun t1121 => (some (t1118, t1121, true))))
def quo_Rem.f (k : Nat) (l0 : List Int) (l1 : List Int) : Option (List Int × List Int × Bool) := (nat_Trim.f k l1).bind fun t1085 => (if (t1085.length : Int) = 0 then (some (([] : List Int), ([] : List Int), false)) else (if 0 ≤ (wrap64 ((t1085.length : Int) - 1)) then (if (wrap64 ((t1085.length : Int) - 1)) < (t1085.length : Int) then ((bits_LeadingZeros32.f (rd t1085 (wrap64 ((t1085.length : Int) - 1)))).bind fun t1089 => ((mul_Shift.f k l0 t1089).bind fun t1090 => ((mul_Shift.f k t1085 t1089).bind fun t1093 => (if 0 ≤ (t1090.length : Int) then (if ((t1090.length : Int) : Int).toNat ≤ 70368744177664 then (quo_Rem.l0 k t1090 t1093 (List.replicate ((t1090.length : Int) : Int).toNat 0) t1089 (([] : List Int)) (wrap64 ((t1090.length : Int) - 1))) else (none)) else (none))))) else (none)) else (none)))
theorem quo_Rem.mono_l : ∀ k, (∀ y0 y1 y2 y3 y4 y5, LeO (quo_Rem.l0 k y0 y1 y2 y3 y4 y5) (quo_Rem.l0 (k + 1) y0 y1 y2 y3 y4 y5))
  | 0 => fun _ _ _ _ _ _ r h => by simp [quo_Rem.l0] at h
  | k + 1 => by
    have ih0 := quo_Rem.mono_l k
    · intro y0 y1 y2 y3 y4 y5
      unfold quo_Rem.l0
      repeat' first
      | (with_reducible exact ih0 _ _ _ _ _ _)
      | (with_reducible exact mul_Shift.mono _ _ _)
      | (with_reducible exact nat_Trim.mono _ _)
      | (with_reducible exact quo_less.mono _ _ _ _)
      | (with_reducible exact LeO.refl _)
      | (with_reducible exact LeO.none _)
      | (with_reducible refine LeO.ite ?_ ?_)
      | (with_reducible refine LeO.bind ?_ (fun _ => ?_))
      | exact ih0 _ _ _ _ _ _
      | exact mul_Shift.mono _ _ _
      | exact nat_Trim.mono _ _
      | exact quo_less.mono _ _ _ _
      | exact LeO.none _
      | refine LeO.ite ?_ ?_
      | refine LeO.bind ?_ (fun _ => ?_)
theorem quo_Rem.mono : ∀ a0 a1 k, LeO (quo_Rem.f k a0 a1) (quo_Rem.f (k + 1) a0 a1) := by
  intro a0 a1 k
  have ih0 := quo_Rem.mono_l k
  unfold quo_Rem.f
  repeat' first
      | (with_reducible exact ih0 _ _ _ _ _ _)
      | (with_reducible exact mul_Shift.mono _ _ _)
      | (with_reducible exact nat_Trim.mono _ _)
      | (with_reducible exact quo_less.mono _ _ _ _)
      | (with_reducible exact LeO.refl _)
      | (with_reducible exact LeO.none _)
      | (with_reducible refine LeO.ite ?_ ?_)
      | (with_reducible refine LeO.bind ?_ (fun _ => ?_))
      | exact ih0 _ _ _ _ _ _
      | exact mul_Shift.mono _ _ _
      | exact nat_Trim.mono _ _
      | exact quo_less.mono _ _ _ _
      | exact LeO.none _
      | refine LeO.ite ?_ ?_
      | refine LeO.bind ?_ (fun _ => ?_)
def quo_Gcd.l0 : Nat → List Int → List Int → Option (List Int)
  | 0, _, _ => none
  | k + 1, x0, x1 => if (x1.length : Int) > 0 then ((quo_Rem.f k x0 x1).bind fun bt1130 => (quo_Gcd.l0 k x1 bt1130.2.1)) else (some x0)
def quo_Gcd.f (k : Nat) (l0 : List Int) (l1 : List Int) : Option (List Int) := (nat_Trim.f k l0).bind fun t1124 => ((nat_Trim.f k l1).bind fun t1127 => (quo_Gcd.l0 k t1124 t1127))
theorem quo_Gcd.mono_l : ∀ k, (∀ y0 y1, LeO (quo_Gcd.l0 k y0 y1) (quo_Gcd.l0 (k + 1) y0 y1))
  | 0 => fun _ _ r h => by simp [quo_Gcd.l0] at h
  | k + 1 => by
    have ih0 := quo_Gcd.mono_l k
    · intro y0 y1
      unfold quo_Gcd.l0
      repeat' first
      | (with_reducible exact ih0 _ _)
      | (with_reducible exact nat_Trim.mono _ _)
      | (with_reducible exact quo_Rem.mono _ _ _)
      | (with_reducible exact LeO.refl _)
      | (with_reducible exact LeO.none _)
      | (with_reducible refine LeO.ite ?_ ?_)
      | (with_reducible refine LeO.bind ?_ (fun _ => ?_))
      | exact ih0 _ _
      | exact nat_Trim.mono _ _
      | exact quo_Rem.mono _ _ _
      | exact LeO.none _
      | refine LeO.ite ?_ ?_
      | refine LeO.bind ?_ (fun _ => ?_)
theorem quo_Gcd.mono : ∀ a0 a1 k, LeO (quo_Gcd.f k a0 a1) (quo_Gcd.f (k + 1) a0 a1) := by
  intro a0 a1 k
  have ih0 := quo_Gcd.mono_l k
  unfold quo_Gcd.f
  repeat' first
      | (with_reducible exact ih0 _ _)
      | (with_reducible exact nat_Trim.mono _ _)
      | (with_reducible exact quo_Rem.mono _ _ _)
      | (with_reducible exact LeO.refl _)
      | (with_reducible exact LeO.none _)
      | (with_reducible refine LeO.ite ?_ ?_)
      | (with_reducible refine LeO.bind ?_ (fun _ => ?_))
      | exact ih0 _ _
      | exact nat_Trim.mono _ _
      | exact quo_Rem.mono _ _ _
      | exact LeO.none _
      | refine LeO.ite ?_ ?_
      | refine LeO.bind ?_ (fun _ => ?_)
end Go.Proofs.YtnilfndadahgaaaDoor.P
set_option linter.unusedVariables false
set_option linter.unusedSimpArgs false
namespace Go.Proofs.YtnilfndadahgaaaDoor.P
open Go.RowKit Go.Proofs.YtnilfndadahgaaaDoorW.PrintWords Go.Proofs.YtnilfndadahgaaaDoorW.PrintLast Go.Proofs.YtnilfndadahgaaaDoorW.PrintMore
def rat_Of.f (k : Nat) (a0_0 : Bool) (l0_1 : List Int) (l1 : List Int) : Option (Bool × List Int × List Int × Int) := (whole_Trim.f k a0_0 l0_1).bind fun bt1139 => ((nat_Trim.f k l1).bind fun t1143 => (if (t1143.length : Int) = 0 then (some (false, ([] : List Int), ([] : List Int), 3)) else ((quo_Gcd.f k bt1139.2 t1143).bind fun t1146 => ((quo_Rem.f k bt1139.2 t1146).bind fun bt1149 => ((quo_Rem.f k t1143 t1146).bind fun bt1156 => (if (bt1149.1.length : Int) > 64 then (some (false, ([] : List Int), ([] : List Int), 2)) else (if (bt1156.1.length : Int) > 64 then (some (false, ([] : List Int), ([] : List Int), 2)) else (some (bt1139.1, bt1149.1, bt1156.1, 0)))))))))
theorem rat_Of.mono : ∀ a0 a1 a2 k, LeO (rat_Of.f k a0 a1 a2) (rat_Of.f (k + 1) a0 a1 a2) := by
  intro a0 a1 a2 k
  unfold rat_Of.f
  repeat' first
      | (with_reducible exact nat_Trim.mono _ _)
      | (with_reducible exact quo_Gcd.mono _ _ _)
      | (with_reducible exact quo_Rem.mono _ _ _)
      | (with_reducible exact whole_Trim.mono _ _ _)
      | (with_reducible exact LeO.refl _)
      | (with_reducible exact LeO.none _)
      | (with_reducible refine LeO.ite ?_ ?_)
      | (with_reducible refine LeO.bind ?_ (fun _ => ?_))
      | exact nat_Trim.mono _ _
      | exact quo_Gcd.mono _ _ _
      | exact quo_Rem.mono _ _ _
      | exact whole_Trim.mono _ _ _
      | exact LeO.none _
      | refine LeO.ite ?_ ?_
      | refine LeO.bind ?_ (fun _ => ?_)
def rat_trimmed.f (l0 : List Int) : Option (Bool) := if (l0.length : Int) = 0 then (some true) else (if 0 ≤ (wrap64 ((l0.length : Int) - 1)) then (if (wrap64 ((l0.length : Int) - 1)) < (l0.length : Int) then (some ((rd l0 (wrap64 ((l0.length : Int) - 1))) != 0)) else (none)) else (none))
def rat_Good.j0 : Nat → List Int → List Int → Bool → Option (Bool)
  | 0, _, _, _ => none
  | k + 1, x3, x4, x42 => if x42 = true then (some false) else ((quo_Gcd.f k x3 x4).bind fun t1531 => ((nat_Of.f k 1).bind fun t1534 => ((nat_Cmp.f k t1531 t1534).bind fun t1537 => (some (t1537 == 0)))))
def rat_Good.f (k : Nat) (a0_0 : Bool) (l0_1 : List Int) (l0_2 : List Int) : Option (Bool) := (rat_trimmed.f l0_1).bind fun t1529 => (if t1529 = true then ((rat_trimmed.f l0_2).bind fun t1530 => (if t1530 = true then (if (l0_2.length : Int) = 0 then (rat_Good.j0 k l0_1 l0_2 true) else (if (l0_2.length : Int) > 64 then (rat_Good.j0 k l0_1 l0_2 true) else (if (l0_1.length : Int) > 64 then (rat_Good.j0 k l0_1 l0_2 true) else (if a0_0 = true then (rat_Good.j0 k l0_1 l0_2 ((l0_1.length : Int) == 0)) else (rat_Good.j0 k l0_1 l0_2 false))))) else (rat_Good.j0 k l0_1 l0_2 true))) else (rat_Good.j0 k l0_1 l0_2 true))
theorem rat_Good.mono_l : ∀ k, (∀ y0 y1 y2, LeO (rat_Good.j0 k y0 y1 y2) (rat_Good.j0 (k + 1) y0 y1 y2))
  | 0 => fun _ _ _ r h => by simp [rat_Good.j0] at h
  | k + 1 => by
    have ih0 := rat_Good.mono_l k
    · intro y0 y1 y2
      unfold rat_Good.j0
      repeat' first
      | (with_reducible exact ih0 _ _ _)
      | (with_reducible exact nat_Cmp.mono _ _ _)
      | (with_reducible exact nat_Of.mono _ _)
      | (with_reducible exact quo_Gcd.mono _ _ _)
      | (with_reducible exact LeO.refl _)
      | (with_reducible exact LeO.none _)
      | (with_reducible refine LeO.ite ?_ ?_)
      | (with_reducible refine LeO.bind ?_ (fun _ => ?_))
      | exact ih0 _ _ _
      | exact nat_Cmp.mono _ _ _
      | exact nat_Of.mono _ _
      | exact quo_Gcd.mono _ _ _
      | exact LeO.none _
      | refine LeO.ite ?_ ?_
      | refine LeO.bind ?_ (fun _ => ?_)
theorem rat_Good.mono : ∀ a0 a1 a2 k, LeO (rat_Good.f k a0 a1 a2) (rat_Good.f (k + 1) a0 a1 a2) := by
  intro a0 a1 a2 k
  have ih0 := rat_Good.mono_l k
  unfold rat_Good.f
  repeat' first
      | (with_reducible exact ih0 _ _ _)
      | (with_reducible exact nat_Cmp.mono _ _ _)
      | (with_reducible exact nat_Of.mono _ _)
      | (with_reducible exact quo_Gcd.mono _ _ _)
      | (with_reducible exact LeO.refl _)
      | (with_reducible exact LeO.none _)
      | (with_reducible refine LeO.ite ?_ ?_)
      | (with_reducible refine LeO.bind ?_ (fun _ => ?_))
      | exact ih0 _ _ _
      | exact nat_Cmp.mono _ _ _
      | exact nat_Of.mono _ _
      | exact quo_Gcd.mono _ _ _
      | exact LeO.none _
      | refine LeO.ite ?_ ?_
      | refine LeO.bind ?_ (fun _ => ?_)
def rat_cross.f (k : Nat) (a0_0 : Bool) (l0_1 : List Int) (l0_2 : List Int) (a1_0 : Bool) (l1_1 : List Int) (l1_2 : List Int) : Option (Bool × List Int) := (whole_Mul.f k a0_0 l0_1 false l1_2).bind fun bt1541 => (some (bt1541.1, bt1541.2))
theorem rat_cross.mono : ∀ a0 a1 a2 a3 a4 a5 k, LeO (rat_cross.f k a0 a1 a2 a3 a4 a5) (rat_cross.f (k + 1) a0 a1 a2 a3 a4 a5) := by
  intro a0 a1 a2 a3 a4 a5 k
  unfold rat_cross.f
  repeat' first
      | (with_reducible exact whole_Mul.mono _ _ _ _ _)
      | (with_reducible exact LeO.refl _)
      | (with_reducible exact LeO.none _)
      | (with_reducible refine LeO.ite ?_ ?_)
      | (with_reducible refine LeO.bind ?_ (fun _ => ?_))
      | exact whole_Mul.mono _ _ _ _ _
      | exact LeO.none _
      | refine LeO.ite ?_ ?_
      | refine LeO.bind ?_ (fun _ => ?_)
def rat_Add.j0 : Nat → Bool → Bool → List Int → List Int → Bool → List Int → List Int → Option (Bool × List Int × List Int × Int)
  | 0, _, _, _, _, _, _, _ => none
  | k + 1, x13, x1546000, x1546001, x1546002, x1547000, x1547001, x1547002 => if x13 = true then (some (false, ([] : List Int), ([] : List Int), 1)) else ((rat_cross.f k x1546000 x1546001 x1546002 x1547000 x1547001 x1547002).bind fun bt1550 => ((rat_cross.f k x1547000 x1547001 x1547002 x1546000 x1546001 x1546002).bind fun bt1554 => ((whole_Add.f k bt1550.1 bt1550.2 bt1554.1 bt1554.2).bind fun bt1558 => ((mul_Of.f k x1546002 x1547002).bind fun t1562 => ((rat_Of.f k bt1558.1 bt1558.2 t1562).bind fun bt1565 => (some (bt1565.1, bt1565.2.1, bt1565.2.2.1, bt1565.2.2.2)))))))
def rat_Add.f (k : Nat) (a0_0 : Bool) (l0_1 : List Int) (l0_2 : List Int) (a1_0 : Bool) (l1_1 : List Int) (l1_2 : List Int) : Option (Bool × List Int × List Int × Int) := (rat_Good.f k a0_0 l0_1 l0_2).bind fun t1548 => (if t1548 = true then ((rat_Good.f k a1_0 l1_1 l1_2).bind fun t1549 => (rat_Add.j0 k (!t1549) a0_0 l0_1 l0_2 a1_0 l1_1 l1_2)) else (rat_Add.j0 k true a0_0 l0_1 l0_2 a1_0 l1_1 l1_2))
theorem rat_Add.mono_l : ∀ k, (∀ y0 y1 y2 y3 y4 y5 y6, LeO (rat_Add.j0 k y0 y1 y2 y3 y4 y5 y6) (rat_Add.j0 (k + 1) y0 y1 y2 y3 y4 y5 y6))
  | 0 => fun _ _ _ _ _ _ _ r h => by simp [rat_Add.j0] at h
  | k + 1 => by
    have ih0 := rat_Add.mono_l k
    · intro y0 y1 y2 y3 y4 y5 y6
      unfold rat_Add.j0
      repeat' first
      | (with_reducible exact ih0 _ _ _ _ _ _ _)
      | (with_reducible exact mul_Of.mono _ _ _)
      | (with_reducible exact rat_Good.mono _ _ _ _)
      | (with_reducible exact rat_Of.mono _ _ _ _)
      | (with_reducible exact rat_cross.mono _ _ _ _ _ _ _)
      | (with_reducible exact whole_Add.mono _ _ _ _ _)
      | (with_reducible exact LeO.refl _)
      | (with_reducible exact LeO.none _)
      | (with_reducible refine LeO.ite ?_ ?_)
      | (with_reducible refine LeO.bind ?_ (fun _ => ?_))
      | exact ih0 _ _ _ _ _ _ _
      | exact mul_Of.mono _ _ _
      | exact rat_Good.mono _ _ _ _
      | exact rat_Of.mono _ _ _ _
      | exact rat_cross.mono _ _ _ _ _ _ _
      | exact whole_Add.mono _ _ _ _ _
      | exact LeO.none _
      | refine LeO.ite ?_ ?_
      | refine LeO.bind ?_ (fun _ => ?_)
theorem rat_Add.mono : ∀ a0 a1 a2 a3 a4 a5 k, LeO (rat_Add.f k a0 a1 a2 a3 a4 a5) (rat_Add.f (k + 1) a0 a1 a2 a3 a4 a5) := by
  intro a0 a1 a2 a3 a4 a5 k
  have ih0 := rat_Add.mono_l k
  unfold rat_Add.f
  repeat' first
      | (with_reducible exact ih0 _ _ _ _ _ _ _)
      | (with_reducible exact mul_Of.mono _ _ _)
      | (with_reducible exact rat_Good.mono _ _ _ _)
      | (with_reducible exact rat_Of.mono _ _ _ _)
      | (with_reducible exact rat_cross.mono _ _ _ _ _ _ _)
      | (with_reducible exact whole_Add.mono _ _ _ _ _)
      | (with_reducible exact LeO.refl _)
      | (with_reducible exact LeO.none _)
      | (with_reducible refine LeO.ite ?_ ?_)
      | (with_reducible refine LeO.bind ?_ (fun _ => ?_))
      | exact ih0 _ _ _ _ _ _ _
      | exact mul_Of.mono _ _ _
      | exact rat_Good.mono _ _ _ _
      | exact rat_Of.mono _ _ _ _
      | exact rat_cross.mono _ _ _ _ _ _ _
      | exact whole_Add.mono _ _ _ _ _
      | exact LeO.none _
      | refine LeO.ite ?_ ?_
      | refine LeO.bind ?_ (fun _ => ?_)
def rat_Whole.f (k : Nat) (a0 : Int) : Option (Bool × List Int × List Int) := (whole_Of.f k a0).bind fun bt1632 => ((nat_Of.f k 1).bind fun t1636 => (some (bt1632.1, bt1632.2, t1636)))
theorem rat_Whole.mono : ∀ a0 k, LeO (rat_Whole.f k a0) (rat_Whole.f (k + 1) a0) := by
  intro a0 k
  unfold rat_Whole.f
  repeat' first
      | (with_reducible exact nat_Of.mono _ _)
      | (with_reducible exact whole_Of.mono _ _)
      | (with_reducible exact LeO.refl _)
      | (with_reducible exact LeO.none _)
      | (with_reducible refine LeO.ite ?_ ?_)
      | (with_reducible refine LeO.bind ?_ (fun _ => ?_))
      | exact nat_Of.mono _ _
      | exact whole_Of.mono _ _
      | exact LeO.none _
      | refine LeO.ite ?_ ?_
      | refine LeO.bind ?_ (fun _ => ?_)
def rat_Mul.j0 : Nat → Bool → Bool → List Int → List Int → Bool → List Int → List Int → Option (Bool × List Int × List Int × Int)
  | 0, _, _, _, _, _, _, _ => none
  | k + 1, x13, x1640000, x1640001, x1640002, x1641000, x1641001, x1641002 => if x13 = true then (some (false, ([] : List Int), ([] : List Int), 1)) else ((whole_Mul.f k x1640000 x1640001 x1641000 x1641001).bind fun bt1644 => ((mul_Of.f k x1640002 x1641002).bind fun t1648 => ((rat_Of.f k bt1644.1 bt1644.2 t1648).bind fun bt1651 => (some (bt1651.1, bt1651.2.1, bt1651.2.2.1, bt1651.2.2.2)))))
def rat_Mul.f (k : Nat) (a0_0 : Bool) (l0_1 : List Int) (l0_2 : List Int) (a1_0 : Bool) (l1_1 : List Int) (l1_2 : List Int) : Option (Bool × List Int × List Int × Int) := (rat_Good.f k a0_0 l0_1 l0_2).bind fun t1642 => (if t1642 = true then ((rat_Good.f k a1_0 l1_1 l1_2).bind fun t1643 => (rat_Mul.j0 k (!t1643) a0_0 l0_1 l0_2 a1_0 l1_1 l1_2)) else (rat_Mul.j0 k true a0_0 l0_1 l0_2 a1_0 l1_1 l1_2))
theorem rat_Mul.mono_l : ∀ k, (∀ y0 y1 y2 y3 y4 y5 y6, LeO (rat_Mul.j0 k y0 y1 y2 y3 y4 y5 y6) (rat_Mul.j0 (k + 1) y0 y1 y2 y3 y4 y5 y6))
  | 0 => fun _ _ _ _ _ _ _ r h => by simp [rat_Mul.j0] at h
  | k + 1 => by
    have ih0 := rat_Mul.mono_l k
    · intro y0 y1 y2 y3 y4 y5 y6
      unfold rat_Mul.j0
      repeat' first
      | (with_reducible exact ih0 _ _ _ _ _ _ _)
      | (with_reducible exact mul_Of.mono _ _ _)
      | (with_reducible exact rat_Good.mono _ _ _ _)
      | (with_reducible exact rat_Of.mono _ _ _ _)
      | (with_reducible exact whole_Mul.mono _ _ _ _ _)
      | (with_reducible exact LeO.refl _)
      | (with_reducible exact LeO.none _)
      | (with_reducible refine LeO.ite ?_ ?_)
      | (with_reducible refine LeO.bind ?_ (fun _ => ?_))
      | exact ih0 _ _ _ _ _ _ _
      | exact mul_Of.mono _ _ _
      | exact rat_Good.mono _ _ _ _
      | exact rat_Of.mono _ _ _ _
      | exact whole_Mul.mono _ _ _ _ _
      | exact LeO.none _
      | refine LeO.ite ?_ ?_
      | refine LeO.bind ?_ (fun _ => ?_)
theorem rat_Mul.mono : ∀ a0 a1 a2 a3 a4 a5 k, LeO (rat_Mul.f k a0 a1 a2 a3 a4 a5) (rat_Mul.f (k + 1) a0 a1 a2 a3 a4 a5) := by
  intro a0 a1 a2 a3 a4 a5 k
  have ih0 := rat_Mul.mono_l k
  unfold rat_Mul.f
  repeat' first
      | (with_reducible exact ih0 _ _ _ _ _ _ _)
      | (with_reducible exact mul_Of.mono _ _ _)
      | (with_reducible exact rat_Good.mono _ _ _ _)
      | (with_reducible exact rat_Of.mono _ _ _ _)
      | (with_reducible exact whole_Mul.mono _ _ _ _ _)
      | (with_reducible exact LeO.refl _)
      | (with_reducible exact LeO.none _)
      | (with_reducible refine LeO.ite ?_ ?_)
      | (with_reducible refine LeO.bind ?_ (fun _ => ?_))
      | exact ih0 _ _ _ _ _ _ _
      | exact mul_Of.mono _ _ _
      | exact rat_Good.mono _ _ _ _
      | exact rat_Of.mono _ _ _ _
      | exact whole_Mul.mono _ _ _ _ _
      | exact LeO.none _
      | refine LeO.ite ?_ ?_
      | refine LeO.bind ?_ (fun _ => ?_)
def rat_Div.j0 : Nat → Bool → Bool → List Int → List Int → Bool → List Int → List Int → Option (Bool × List Int × List Int × Int)
  | 0, _, _, _, _, _, _, _ => none
  | k + 1, x14, x1660000, x1660001, x1660002, x1661000, x1661001, x1661002 => if x14 = true then (some (false, ([] : List Int), ([] : List Int), 1)) else ((rat_cross.f k x1660000 x1660001 x1660002 x1661000 x1661001 x1661002).bind fun bt1664 => ((mul_Of.f k x1660002 x1661001).bind fun t1669 => ((rat_Of.f k (bt1664.1 != x1661000) bt1664.2 t1669).bind fun bt1672 => (some (bt1672.1, bt1672.2.1, bt1672.2.2.1, bt1672.2.2.2)))))
def rat_Div.f (k : Nat) (a0_0 : Bool) (l0_1 : List Int) (l0_2 : List Int) (a1_0 : Bool) (l1_1 : List Int) (l1_2 : List Int) : Option (Bool × List Int × List Int × Int) := (rat_Good.f k a0_0 l0_1 l0_2).bind fun t1662 => (if t1662 = true then ((rat_Good.f k a1_0 l1_1 l1_2).bind fun t1663 => (rat_Div.j0 k (!t1663) a0_0 l0_1 l0_2 a1_0 l1_1 l1_2)) else (rat_Div.j0 k true a0_0 l0_1 l0_2 a1_0 l1_1 l1_2))
theorem rat_Div.mono_l : ∀ k, (∀ y0 y1 y2 y3 y4 y5 y6, LeO (rat_Div.j0 k y0 y1 y2 y3 y4 y5 y6) (rat_Div.j0 (k + 1) y0 y1 y2 y3 y4 y5 y6))
  | 0 => fun _ _ _ _ _ _ _ r h => by simp [rat_Div.j0] at h
  | k + 1 => by
    have ih0 := rat_Div.mono_l k
    · intro y0 y1 y2 y3 y4 y5 y6
      unfold rat_Div.j0
      repeat' first
      | (with_reducible exact ih0 _ _ _ _ _ _ _)
      | (with_reducible exact mul_Of.mono _ _ _)
      | (with_reducible exact rat_Good.mono _ _ _ _)
      | (with_reducible exact rat_Of.mono _ _ _ _)
      | (with_reducible exact rat_cross.mono _ _ _ _ _ _ _)
      | (with_reducible exact LeO.refl _)
      | (with_reducible exact LeO.none _)
      | (with_reducible refine LeO.ite ?_ ?_)
      | (with_reducible refine LeO.bind ?_ (fun _ => ?_))
      | exact ih0 _ _ _ _ _ _ _
      | exact mul_Of.mono _ _ _
      | exact rat_Good.mono _ _ _ _
      | exact rat_Of.mono _ _ _ _
      | exact rat_cross.mono _ _ _ _ _ _ _
      | exact LeO.none _
      | refine LeO.ite ?_ ?_
      | refine LeO.bind ?_ (fun _ => ?_)
theorem rat_Div.mono : ∀ a0 a1 a2 a3 a4 a5 k, LeO (rat_Div.f k a0 a1 a2 a3 a4 a5) (rat_Div.f (k + 1) a0 a1 a2 a3 a4 a5) := by
  intro a0 a1 a2 a3 a4 a5 k
  have ih0 := rat_Div.mono_l k
  unfold rat_Div.f
  repeat' first
      | (with_reducible exact ih0 _ _ _ _ _ _ _)
      | (with_reducible exact mul_Of.mono _ _ _)
      | (with_reducible exact rat_Good.mono _ _ _ _)
      | (with_reducible exact rat_Of.mono _ _ _ _)
      | (with_reducible exact rat_cross.mono _ _ _ _ _ _ _)
      | (with_reducible exact LeO.refl _)
      | (with_reducible exact LeO.none _)
      | (with_reducible refine LeO.ite ?_ ?_)
      | (with_reducible refine LeO.bind ?_ (fun _ => ?_))
      | exact ih0 _ _ _ _ _ _ _
      | exact mul_Of.mono _ _ _
      | exact rat_Good.mono _ _ _ _
      | exact rat_Of.mono _ _ _ _
      | exact rat_cross.mono _ _ _ _ _ _ _
      | exact LeO.none _
      | refine LeO.ite ?_ ?_
      | refine LeO.bind ?_ (fun _ => ?_)
end Go.Proofs.YtnilfndadahgaaaDoor.P
set_option linter.unusedVariables false
set_option linter.unusedSimpArgs false
namespace Go.Proofs.YtnilfndadahgaaaDoor.P
open Go.RowKit Go.Proofs.YtnilfndadahgaaaDoorW.PrintWords Go.Proofs.YtnilfndadahgaaaDoorW.PrintLast Go.Proofs.YtnilfndadahgaaaDoorW.PrintMore
def literal_run.l0 : Nat → ByteArray → Int → Option (Int)
  | 0, _, _ => none
  | k + 1, x0, x3 => if x3 < (x0.size : Int) then (if 0 ≤ x3 then (if 0 ≤ (bt x0 x3) then (if (bt x0 x3) < (tab1_.length : Int) then (if rdOf false tab1_ (bt x0 x3) = true then (literal_run.l0 k x0 (wrap64 (x3 + 1))) else (some x3)) else (none)) else (none)) else (none)) else (some x3)
def literal_run.f (k : Nat) (a0 : ByteArray) : Option (Int) := literal_run.l0 k a0 0
theorem literal_run.mono_l : ∀ k, (∀ y0 y1, LeO (literal_run.l0 k y0 y1) (literal_run.l0 (k + 1) y0 y1))
  | 0 => fun _ _ r h => by simp [literal_run.l0] at h
  | k + 1 => by
    have ih0 := literal_run.mono_l k
    · intro y0 y1
      unfold literal_run.l0
      repeat' first
      | (with_reducible exact ih0 _ _)
      | (with_reducible exact LeO.refl _)
      | (with_reducible exact LeO.none _)
      | (with_reducible refine LeO.ite ?_ ?_)
      | (with_reducible refine LeO.bind ?_ (fun _ => ?_))
      | exact ih0 _ _
      | exact LeO.none _
      | refine LeO.ite ?_ ?_
      | refine LeO.bind ?_ (fun _ => ?_)
theorem literal_run.mono : ∀ a0 k, LeO (literal_run.f k a0) (literal_run.f (k + 1) a0) := by
  intro a0 k
  have ih0 := literal_run.mono_l k
  unfold literal_run.f
  repeat' first
      | (with_reducible exact ih0 _ _)
      | (with_reducible exact LeO.refl _)
      | (with_reducible exact LeO.none _)
      | (with_reducible refine LeO.ite ?_ ?_)
      | (with_reducible refine LeO.bind ?_ (fun _ => ?_))
      | exact ih0 _ _
      | exact LeO.none _
      | refine LeO.ite ?_ ?_
      | refine LeO.bind ?_ (fun _ => ?_)
def literal_exponent.f (k : Nat) (a0 : ByteArray) : Option (Int) := (strings_CutPrefix.f a0 (⟨#[101]⟩ : ByteArray)).bind fun bt1005 => (if bt1005.2 = true then ((strings_CutPrefix.f bt1005.1 (⟨#[45]⟩ : ByteArray)).bind fun bt1007 => ((literal_run.f k bt1007.1).bind fun t1009 => (if (mn t1009 3) = 0 then (some 0) else (if bt1007.2 = true then (some (wrap64 ((mn t1009 3) + 2))) else (some (wrap64 ((mn t1009 3) + 1))))))) else (some 0))
theorem literal_exponent.mono : ∀ a0 k, LeO (literal_exponent.f k a0) (literal_exponent.f (k + 1) a0) := by
  intro a0 k
  unfold literal_exponent.f
  repeat' first
      | (with_reducible exact literal_run.mono _ _)
      | (with_reducible exact LeO.refl _)
      | (with_reducible exact LeO.none _)
      | (with_reducible refine LeO.ite ?_ ?_)
      | (with_reducible refine LeO.bind ?_ (fun _ => ?_))
      | exact literal_run.mono _ _
      | exact LeO.none _
      | refine LeO.ite ?_ ?_
      | refine LeO.bind ?_ (fun _ => ?_)
def literal_Length.j0 : Nat → ByteArray → Int → ByteArray → Bool → Option (Int)
  | 0, _, _, _, _ => none
  | k + 1, x0, x3, x4, x22 => if x22 = true then ((literal_run.f k x4).bind fun t1014 => (if 0 ≤ (wrap64 (x3 + (wrap64 (1 + t1014)))) then (if (wrap64 (x3 + (wrap64 (1 + t1014)))) ≤ (x0.size : Int) then ((literal_exponent.f k (x0.extract ((wrap64 (x3 + (wrap64 (1 + t1014)))) : Int).toNat x0.size)).bind fun t1015 => (some (wrap64 ((wrap64 (x3 + (wrap64 (1 + t1014)))) + t1015)))) else (none)) else (none))) else (if 0 ≤ x3 then (if x3 ≤ (x0.size : Int) then ((literal_exponent.f k (x0.extract (x3 : Int).toNat x0.size)).bind fun t1016 => (some (wrap64 (x3 + t1016)))) else (none)) else (none))
def literal_Length.f (k : Nat) (a0 : ByteArray) : Option (Int) := (literal_run.f k a0).bind fun t1010 => (if t1010 = 0 then (some 0) else (if 0 ≤ t1010 then (if t1010 ≤ (a0.size : Int) then ((strings_CutPrefix.f (a0.extract (t1010 : Int).toNat a0.size) (⟨#[46]⟩ : ByteArray)).bind fun bt1011 => (if bt1011.2 = true then ((literal_run.f k bt1011.1).bind fun t1013 => (literal_Length.j0 k a0 t1010 bt1011.1 (decide (t1013 > 0)))) else (literal_Length.j0 k a0 t1010 bt1011.1 false))) else (none)) else (none)))
theorem literal_Length.mono_l : ∀ k, (∀ y0 y1 y2 y3, LeO (literal_Length.j0 k y0 y1 y2 y3) (literal_Length.j0 (k + 1) y0 y1 y2 y3))
  | 0 => fun _ _ _ _ r h => by simp [literal_Length.j0] at h
  | k + 1 => by
    have ih0 := literal_Length.mono_l k
    · intro y0 y1 y2 y3
      unfold literal_Length.j0
      repeat' first
      | (with_reducible exact ih0 _ _ _ _)
      | (with_reducible exact literal_exponent.mono _ _)
      | (with_reducible exact literal_run.mono _ _)
      | (with_reducible exact LeO.refl _)
      | (with_reducible exact LeO.none _)
      | (with_reducible refine LeO.ite ?_ ?_)
      | (with_reducible refine LeO.bind ?_ (fun _ => ?_))
      | exact ih0 _ _ _ _
      | exact literal_exponent.mono _ _
      | exact literal_run.mono _ _
      | exact LeO.none _
      | refine LeO.ite ?_ ?_
      | refine LeO.bind ?_ (fun _ => ?_)
theorem literal_Length.mono : ∀ a0 k, LeO (literal_Length.f k a0) (literal_Length.f (k + 1) a0) := by
  intro a0 k
  have ih0 := literal_Length.mono_l k
  unfold literal_Length.f
  repeat' first
      | (with_reducible exact ih0 _ _ _ _)
      | (with_reducible exact literal_exponent.mono _ _)
      | (with_reducible exact literal_run.mono _ _)
      | (with_reducible exact LeO.refl _)
      | (with_reducible exact LeO.none _)
      | (with_reducible refine LeO.ite ?_ ?_)
      | (with_reducible refine LeO.bind ?_ (fun _ => ?_))
      | exact ih0 _ _ _ _
      | exact literal_exponent.mono _ _
      | exact literal_run.mono _ _
      | exact LeO.none _
      | refine LeO.ite ?_ ?_
      | refine LeO.bind ?_ (fun _ => ?_)
def literal_Good.f (k : Nat) (a0 : ByteArray) : Option (Bool) := if a0.toList = ([] : List UInt8) then (some false) else (if (a0.size : Int) ≤ 400 then ((literal_Length.f k a0).bind fun t1017 => (some (t1017 == (a0.size : Int)))) else (some false))
theorem literal_Good.mono : ∀ a0 k, LeO (literal_Good.f k a0) (literal_Good.f (k + 1) a0) := by
  intro a0 k
  unfold literal_Good.f
  repeat' first
      | (with_reducible exact literal_Length.mono _ _)
      | (with_reducible exact LeO.refl _)
      | (with_reducible exact LeO.none _)
      | (with_reducible refine LeO.ite ?_ ?_)
      | (with_reducible refine LeO.bind ?_ (fun _ => ?_))
      | exact literal_Length.mono _ _
      | exact LeO.none _
      | refine LeO.ite ?_ ?_
      | refine LeO.bind ?_ (fun _ => ?_)
def literal_small.l0 : Nat → ByteArray → Int → Int → Int → Option (Int)
  | 0, _, _, _, _ => none
  | k + 1, x0, x3, x6, x7 => if x7 < x6 then (if 0 ≤ x7 then (if x7 < (x0.size : Int) then (literal_small.l0 k x0 (wrap64 ((wrap64 (10 * x3)) + (((bt x0 x7) - 48) % 256))) x6 (wrap64 (x7 + 1))) else (none)) else (none)) else (some x3)
def literal_small.f (k : Nat) (a0 : ByteArray) : Option (Int) := literal_small.l0 k a0 0 (a0.size : Int) 0
theorem literal_small.mono_l : ∀ k, (∀ y0 y1 y2 y3, LeO (literal_small.l0 k y0 y1 y2 y3) (literal_small.l0 (k + 1) y0 y1 y2 y3))
  | 0 => fun _ _ _ _ r h => by simp [literal_small.l0] at h
  | k + 1 => by
    have ih0 := literal_small.mono_l k
    · intro y0 y1 y2 y3
      unfold literal_small.l0
      repeat' first
      | (with_reducible exact ih0 _ _ _ _)
      | (with_reducible exact LeO.refl _)
      | (with_reducible exact LeO.none _)
      | (with_reducible refine LeO.ite ?_ ?_)
      | (with_reducible refine LeO.bind ?_ (fun _ => ?_))
      | exact ih0 _ _ _ _
      | exact LeO.none _
      | refine LeO.ite ?_ ?_
      | refine LeO.bind ?_ (fun _ => ?_)
theorem literal_small.mono : ∀ a0 k, LeO (literal_small.f k a0) (literal_small.f (k + 1) a0) := by
  intro a0 k
  have ih0 := literal_small.mono_l k
  unfold literal_small.f
  repeat' first
      | (with_reducible exact ih0 _ _ _ _)
      | (with_reducible exact LeO.refl _)
      | (with_reducible exact LeO.none _)
      | (with_reducible refine LeO.ite ?_ ?_)
      | (with_reducible refine LeO.bind ?_ (fun _ => ?_))
      | exact ih0 _ _ _ _
      | exact LeO.none _
      | refine LeO.ite ?_ ?_
      | refine LeO.bind ?_ (fun _ => ?_)
def literal_parts.f (k : Nat) (a0 : ByteArray) : Option (ByteArray × Int) := (strings_Cut.f a0 (⟨#[101]⟩ : ByteArray)).bind fun bt1020 => ((strings_CutPrefix.f bt1020.2.1 (⟨#[45]⟩ : ByteArray)).bind fun bt1023 => ((literal_small.f k bt1023.1).bind fun t1025 => (if bt1023.2 = true then ((strings_Cut.f bt1020.1 (⟨#[46]⟩ : ByteArray)).bind fun bt1026 => (if bt1026.1.size + bt1026.2.1.size ≤ 9223372036854775807 then (some (bt1026.1 ++ bt1026.2.1, wrap64 ((wrap64 (-t1025)) - (bt1026.2.1.size : Int)))) else (none))) else ((strings_Cut.f bt1020.1 (⟨#[46]⟩ : ByteArray)).bind fun bt1029 => (if bt1029.1.size + bt1029.2.1.size ≤ 9223372036854775807 then (some (bt1029.1 ++ bt1029.2.1, wrap64 (t1025 - (bt1029.2.1.size : Int)))) else (none))))))
theorem literal_parts.mono : ∀ a0 k, LeO (literal_parts.f k a0) (literal_parts.f (k + 1) a0) := by
  intro a0 k
  unfold literal_parts.f
  repeat' first
      | (with_reducible exact literal_small.mono _ _)
      | (with_reducible exact LeO.refl _)
      | (with_reducible exact LeO.none _)
      | (with_reducible refine LeO.ite ?_ ?_)
      | (with_reducible refine LeO.bind ?_ (fun _ => ?_))
      | exact literal_small.mono _ _
      | exact LeO.none _
      | refine LeO.ite ?_ ?_
      | refine LeO.bind ?_ (fun _ => ?_)
def literal_Parse.f (k : Nat) (a0 : ByteArray) : Option (Bool × List Int × List Int × Int) := (literal_Good.f k a0).bind fun t1164 => (if t1164 = true then ((literal_parts.f k a0).bind fun bt1165 => ((digits_Parse.f k bt1165.1).bind fun bt1167 => ((digits_Ten.f k (mx bt1165.2 (wrap64 (-bt1165.2)))).bind fun bt1171 => (if bt1165.2 < 0 then ((rat_Of.f k false bt1167.1 bt1171.1).bind fun bt1175 => (some (bt1175.1, bt1175.2.1, bt1175.2.2.1, bt1175.2.2.2))) else ((digits_Ten.f k 0).bind fun bt1183 => ((mul_Of.f k bt1167.1 bt1171.1).bind fun t1187 => ((rat_Of.f k false t1187 bt1183.1).bind fun bt1190 => (some (bt1190.1, bt1190.2.1, bt1190.2.2.1, bt1190.2.2.2))))))))) else (some (false, ([] : List Int), ([] : List Int), 12)))
theorem literal_Parse.mono : ∀ a0 k, LeO (literal_Parse.f k a0) (literal_Parse.f (k + 1) a0) := by
  intro a0 k
  unfold literal_Parse.f
  repeat' first
      | (with_reducible exact digits_Parse.mono _ _)
      | (with_reducible exact digits_Ten.mono _ _)
      | (with_reducible exact literal_Good.mono _ _)
      | (with_reducible exact literal_parts.mono _ _)
      | (with_reducible exact mul_Of.mono _ _ _)
      | (with_reducible exact rat_Of.mono _ _ _ _)
      | (with_reducible exact LeO.refl _)
      | (with_reducible exact LeO.none _)
      | (with_reducible refine LeO.ite ?_ ?_)
      | (with_reducible refine LeO.bind ?_ (fun _ => ?_))
      | exact digits_Parse.mono _ _
      | exact digits_Ten.mono _ _
      | exact literal_Good.mono _ _
      | exact literal_parts.mono _ _
      | exact mul_Of.mono _ _ _
      | exact rat_Of.mono _ _ _ _
      | exact LeO.none _
      | refine LeO.ite ?_ ?_
      | refine LeO.bind ?_ (fun _ => ?_)
end Go.Proofs.YtnilfndadahgaaaDoor.P
set_option linter.unusedVariables false
set_option linter.unusedSimpArgs false
namespace Go.Proofs.YtnilfndadahgaaaDoor.P
open Go.RowKit Go.Proofs.YtnilfndadahgaaaDoorW.PrintWords Go.Proofs.YtnilfndadahgaaaDoorW.PrintLast Go.Proofs.YtnilfndadahgaaaDoorW.PrintMore
def steelyardref03_Rem.l0 : Nat → List Int → List Int → List Int → Int → Option (List Int × List Int × Bool)
  | 0, _, _, _, _ => none
  | k + 1, x5, x7, x8, x9 => if x9 ≥ 0 then ((steelyardref01_Cmp.f k x5 x8).bind fun t1233 => (if t1233 ≥ 0 then ((steelyardref01_Sub.f k x5 x8).bind fun t1234 => (if 0 ≤ (wrap64 (Int.tdiv x9 32)) then (if (wrap64 (Int.tdiv x9 32)) < (x7.length : Int) then (if 0 ≤ (IntKind.u64.wrap (Int.tmod x9 32)) then ((steelyardref02_Down.f k x8 1).bind fun t1239 => (steelyardref03_Rem.l0 k t1234 (x7.set ((wrap64 (Int.tdiv x9 32)) : Int).toNat (Go.bits .or .u32 (rd x7 (wrap64 (Int.tdiv x9 32))) (shl .u32 1 (IntKind.u64.wrap (Int.tmod x9 32))))) t1239 (wrap64 (x9 - 1)))) else (none)) else (none)) else (none))) else ((steelyardref02_Down.f k x8 1).bind fun t1242 => (steelyardref03_Rem.l0 k x5 x7 t1242 (wrap64 (x9 - 1)))))) else ((steelyardref01_Trim.f k x7).bind fun t1230 => (some (t1230, x5, true)))
def steelyardref03_Rem.f (k : Nat) (l0 : List Int) (l1 : List Int) : Option (List Int × List Int × Bool) := (steelyardref01_Bits.f k l1).bind fun t1218 => (if t1218 = 0 then (some (([] : List Int), ([] : List Int), false)) else ((steelyardref01_Trim.f k l0).bind fun t1219 => ((steelyardref01_Bits.f k l0).bind fun t1222 => ((steelyardref01_Bits.f k l1).bind fun t1223 => (if 0 ≤ (wrap64 ((wrap64 (Int.tdiv (mx 0 (wrap64 (t1222 - t1223))) 32)) + 1)) then (if (wrap64 ((wrap64 (Int.tdiv (mx 0 (wrap64 (t1222 - t1223))) 32)) + 1) : Int).toNat ≤ 70368744177664 then ((steelyardref02_Up.f k l1 (mx 0 (wrap64 (t1222 - t1223)))).bind fun t1227 => (steelyardref03_Rem.l0 k t1219 (List.replicate (wrap64 ((wrap64 (Int.tdiv (mx 0 (wrap64 (t1222 - t1223))) 32)) + 1) : Int).toNat 0) t1227 (mx 0 (wrap64 (t1222 - t1223))))) else (none)) else (none))))))
theorem steelyardref03_Rem.mono_l : ∀ k, (∀ y0 y1 y2 y3, LeO (steelyardref03_Rem.l0 k y0 y1 y2 y3) (steelyardref03_Rem.l0 (k + 1) y0 y1 y2 y3))
  | 0 => fun _ _ _ _ r h => by simp [steelyardref03_Rem.l0] at h
  | k + 1 => by
    have ih0 := steelyardref03_Rem.mono_l k
    · intro y0 y1 y2 y3
      unfold steelyardref03_Rem.l0
      repeat' first
      | (with_reducible exact ih0 _ _ _ _)
      | (with_reducible exact steelyardref01_Bits.mono _ _)
      | (with_reducible exact steelyardref01_Cmp.mono _ _ _)
      | (with_reducible exact steelyardref01_Sub.mono _ _ _)
      | (with_reducible exact steelyardref01_Trim.mono _ _)
      | (with_reducible exact steelyardref02_Down.mono _ _ _)
      | (with_reducible exact steelyardref02_Up.mono _ _ _)
      | (with_reducible exact LeO.refl _)
      | (with_reducible exact LeO.none _)
      | (with_reducible refine LeO.ite ?_ ?_)
      | (with_reducible refine LeO.bind ?_ (fun _ => ?_))
      | exact ih0 _ _ _ _
      | exact steelyardref01_Bits.mono _ _
      | exact steelyardref01_Cmp.mono _ _ _
      | exact steelyardref01_Sub.mono _ _ _
      | exact steelyardref01_Trim.mono _ _
      | exact steelyardref02_Down.mono _ _ _
      | exact steelyardref02_Up.mono _ _ _
      | exact LeO.none _
      | refine LeO.ite ?_ ?_
      | refine LeO.bind ?_ (fun _ => ?_)
theorem steelyardref03_Rem.mono : ∀ a0 a1 k, LeO (steelyardref03_Rem.f k a0 a1) (steelyardref03_Rem.f (k + 1) a0 a1) := by
  intro a0 a1 k
  have ih0 := steelyardref03_Rem.mono_l k
  unfold steelyardref03_Rem.f
  repeat' first
      | (with_reducible exact ih0 _ _ _ _)
      | (with_reducible exact steelyardref01_Bits.mono _ _)
      | (with_reducible exact steelyardref01_Cmp.mono _ _ _)
      | (with_reducible exact steelyardref01_Sub.mono _ _ _)
      | (with_reducible exact steelyardref01_Trim.mono _ _)
      | (with_reducible exact steelyardref02_Down.mono _ _ _)
      | (with_reducible exact steelyardref02_Up.mono _ _ _)
      | (with_reducible exact LeO.refl _)
      | (with_reducible exact LeO.none _)
      | (with_reducible refine LeO.ite ?_ ?_)
      | (with_reducible refine LeO.bind ?_ (fun _ => ?_))
      | exact ih0 _ _ _ _
      | exact steelyardref01_Bits.mono _ _
      | exact steelyardref01_Cmp.mono _ _ _
      | exact steelyardref01_Sub.mono _ _ _
      | exact steelyardref01_Trim.mono _ _
      | exact steelyardref02_Down.mono _ _ _
      | exact steelyardref02_Up.mono _ _ _
      | exact LeO.none _
      | refine LeO.ite ?_ ?_
      | refine LeO.bind ?_ (fun _ => ?_)
def steelyardref03_Gcd.l0 : Nat → List Int → List Int → Option (List Int)
  | 0, _, _ => none
  | k + 1, x5, x6 => if (x6.length : Int) > 0 then ((steelyardref03_Rem.f k x5 x6).bind fun bt1251 => (steelyardref03_Gcd.l0 k x6 bt1251.2.1)) else (some x5)
def steelyardref03_Gcd.f (k : Nat) (l0 : List Int) (l1 : List Int) : Option (List Int) := (steelyardref01_Trim.f k l0).bind fun t1245 => ((steelyardref01_Trim.f k l1).bind fun t1248 => (steelyardref03_Gcd.l0 k t1245 t1248))
theorem steelyardref03_Gcd.mono_l : ∀ k, (∀ y0 y1, LeO (steelyardref03_Gcd.l0 k y0 y1) (steelyardref03_Gcd.l0 (k + 1) y0 y1))
  | 0 => fun _ _ r h => by simp [steelyardref03_Gcd.l0] at h
  | k + 1 => by
    have ih0 := steelyardref03_Gcd.mono_l k
    · intro y0 y1
      unfold steelyardref03_Gcd.l0
      repeat' first
      | (with_reducible exact ih0 _ _)
      | (with_reducible exact steelyardref01_Trim.mono _ _)
      | (with_reducible exact steelyardref03_Rem.mono _ _ _)
      | (with_reducible exact LeO.refl _)
      | (with_reducible exact LeO.none _)
      | (with_reducible refine LeO.ite ?_ ?_)
      | (with_reducible refine LeO.bind ?_ (fun _ => ?_))
      | exact ih0 _ _
      | exact steelyardref01_Trim.mono _ _
      | exact steelyardref03_Rem.mono _ _ _
      | exact LeO.none _
      | refine LeO.ite ?_ ?_
      | refine LeO.bind ?_ (fun _ => ?_)
theorem steelyardref03_Gcd.mono : ∀ a0 a1 k, LeO (steelyardref03_Gcd.f k a0 a1) (steelyardref03_Gcd.f (k + 1) a0 a1) := by
  intro a0 a1 k
  have ih0 := steelyardref03_Gcd.mono_l k
  unfold steelyardref03_Gcd.f
  repeat' first
      | (with_reducible exact ih0 _ _)
      | (with_reducible exact steelyardref01_Trim.mono _ _)
      | (with_reducible exact steelyardref03_Rem.mono _ _ _)
      | (with_reducible exact LeO.refl _)
      | (with_reducible exact LeO.none _)
      | (with_reducible refine LeO.ite ?_ ?_)
      | (with_reducible refine LeO.bind ?_ (fun _ => ?_))
      | exact ih0 _ _
      | exact steelyardref01_Trim.mono _ _
      | exact steelyardref03_Rem.mono _ _ _
      | exact LeO.none _
      | refine LeO.ite ?_ ?_
      | refine LeO.bind ?_ (fun _ => ?_)
end Go.Proofs.YtnilfndadahgaaaDoor.P
set_option linter.unusedVariables false
set_option linter.unusedSimpArgs false
namespace Go.Proofs.YtnilfndadahgaaaDoor.P
open Go.RowKit Go.Proofs.YtnilfndadahgaaaDoorW.PrintWords Go.Proofs.YtnilfndadahgaaaDoorW.PrintLast Go.Proofs.YtnilfndadahgaaaDoorW.PrintMore
def steelyardref07_Limit.f (a0_0 : Bool) (l0_1 : List Int) (l0_2 : List Int) : Option (Bool × List Int × List Int × Int) := if (l0_1.length : Int) > 64 then (some (false, ([] : List Int), ([] : List Int), 2)) else (if (l0_2.length : Int) > 64 then (some (false, ([] : List Int), ([] : List Int), 2)) else (some (a0_0, l0_1, l0_2, 0)))
def steelyardref07_trimmed.f (l0 : List Int) : Option (Bool) := if (l0.length : Int) = 0 then (some true) else (if 0 ≤ (wrap64 ((l0.length : Int) - 1)) then (if (wrap64 ((l0.length : Int) - 1)) < (l0.length : Int) then (some ((rd l0 (wrap64 ((l0.length : Int) - 1))) != 0)) else (none)) else (none))
def steelyardref07_Good.f (k : Nat) (a0_0 : Bool) (l0_1 : List Int) (l0_2 : List Int) : Option (Bool) := (steelyardref07_trimmed.f l0_1).bind fun t1260 => (if t1260 = true then ((steelyardref07_trimmed.f l0_2).bind fun t1261 => (if t1261 = true then (if (l0_2.length : Int) = 0 then (some false) else (if a0_0 = true then (if (l0_1.length : Int) = 0 then (some false) else (if (l0_1.length : Int) > 64 then (some false) else (if (l0_2.length : Int) > 64 then (some false) else ((steelyardref03_Gcd.f k l0_1 l0_2).bind fun t1262 => (if (t1262.length : Int) = 1 then (if 0 < (t1262.length : Int) then (some ((rd t1262 0) == 1)) else (none)) else (some false)))))) else (if (l0_1.length : Int) > 64 then (some false) else (if (l0_2.length : Int) > 64 then (some false) else ((steelyardref03_Gcd.f k l0_1 l0_2).bind fun t1266 => (if (t1266.length : Int) = 1 then (if 0 < (t1266.length : Int) then (some ((rd t1266 0) == 1)) else (none)) else (some false))))))) else (some false))) else (some false))
theorem steelyardref07_Good.mono : ∀ a0 a1 a2 k, LeO (steelyardref07_Good.f k a0 a1 a2) (steelyardref07_Good.f (k + 1) a0 a1 a2) := by
  intro a0 a1 a2 k
  unfold steelyardref07_Good.f
  repeat' first
      | (with_reducible exact steelyardref03_Gcd.mono _ _ _)
      | (with_reducible exact LeO.refl _)
      | (with_reducible exact LeO.none _)
      | (with_reducible refine LeO.ite ?_ ?_)
      | (with_reducible refine LeO.bind ?_ (fun _ => ?_))
      | exact steelyardref03_Gcd.mono _ _ _
      | exact LeO.none _
      | refine LeO.ite ?_ ?_
      | refine LeO.bind ?_ (fun _ => ?_)
def steelyardref07_Wide.f (k : Nat) (a0_0 : Bool) (l0_1 : List Int) (l1 : List Int) : Option (Bool × List Int × List Int) := (steelyardref06_Trim.f k a0_0 l0_1).bind fun bt1272 => ((steelyardref03_Gcd.f k bt1272.2 l1).bind fun t1277 => ((steelyardref03_Rem.f k bt1272.2 t1277).bind fun bt1280 => ((steelyardref06_Make.f k bt1272.1 bt1280.1).bind fun bt1287 => ((steelyardref03_Rem.f k l1 t1277).bind fun bt1291 => (some (bt1287.1, bt1287.2, bt1291.1))))))
theorem steelyardref07_Wide.mono : ∀ a0 a1 a2 k, LeO (steelyardref07_Wide.f k a0 a1 a2) (steelyardref07_Wide.f (k + 1) a0 a1 a2) := by
  intro a0 a1 a2 k
  unfold steelyardref07_Wide.f
  repeat' first
      | (with_reducible exact steelyardref03_Gcd.mono _ _ _)
      | (with_reducible exact steelyardref03_Rem.mono _ _ _)
      | (with_reducible exact steelyardref06_Make.mono _ _ _)
      | (with_reducible exact steelyardref06_Trim.mono _ _ _)
      | (with_reducible exact LeO.refl _)
      | (with_reducible exact LeO.none _)
      | (with_reducible refine LeO.ite ?_ ?_)
      | (with_reducible refine LeO.bind ?_ (fun _ => ?_))
      | exact steelyardref03_Gcd.mono _ _ _
      | exact steelyardref03_Rem.mono _ _ _
      | exact steelyardref06_Make.mono _ _ _
      | exact steelyardref06_Trim.mono _ _ _
      | exact LeO.none _
      | refine LeO.ite ?_ ?_
      | refine LeO.bind ?_ (fun _ => ?_)
def steelyardref07_Times.f (k : Nat) (a0_0 : Bool) (l0_1 : List Int) (l0_2 : List Int) (a1_0 : Bool) (l1_1 : List Int) (l1_2 : List Int) : Option (Bool × List Int × List Int) := (steelyardref06_Mul.f k a0_0 l0_1 a1_0 l1_1).bind fun bt1301 => ((steelyardref02_Of.f k l0_2 l1_2).bind fun t1305 => ((steelyardref07_Wide.f k bt1301.1 bt1301.2 t1305).bind fun bt1308 => (some (bt1308.1, bt1308.2.1, bt1308.2.2))))
theorem steelyardref07_Times.mono : ∀ a0 a1 a2 a3 a4 a5 k, LeO (steelyardref07_Times.f k a0 a1 a2 a3 a4 a5) (steelyardref07_Times.f (k + 1) a0 a1 a2 a3 a4 a5) := by
  intro a0 a1 a2 a3 a4 a5 k
  unfold steelyardref07_Times.f
  repeat' first
      | (with_reducible exact steelyardref02_Of.mono _ _ _)
      | (with_reducible exact steelyardref06_Mul.mono _ _ _ _ _)
      | (with_reducible exact steelyardref07_Wide.mono _ _ _ _)
      | (with_reducible exact LeO.refl _)
      | (with_reducible exact LeO.none _)
      | (with_reducible refine LeO.ite ?_ ?_)
      | (with_reducible refine LeO.bind ?_ (fun _ => ?_))
      | exact steelyardref02_Of.mono _ _ _
      | exact steelyardref06_Mul.mono _ _ _ _ _
      | exact steelyardref07_Wide.mono _ _ _ _
      | exact LeO.none _
      | refine LeO.ite ?_ ?_
      | refine LeO.bind ?_ (fun _ => ?_)
def steelyardref07_Div.j0 : Nat → Bool → Bool → List Int → List Int → Bool → List Int → List Int → Option (Bool × List Int × List Int × Int)
  | 0, _, _, _, _, _, _, _ => none
  | k + 1, x12, x1316000, x1316001, x1316002, x1317000, x1317001, x1317002 => if x12 = true then (some (false, ([] : List Int), ([] : List Int), 1)) else (if (x1317001.length : Int) = 0 then (some (false, ([] : List Int), ([] : List Int), 3)) else ((steelyardref06_Make.f k x1317000 x1317002).bind fun bt1320 => ((steelyardref07_Times.f k x1316000 x1316001 x1316002 bt1320.1 bt1320.2 x1317001).bind fun bt1324 => ((steelyardref07_Limit.f bt1324.1 bt1324.2.1 bt1324.2.2).bind fun bt1331 => (some (bt1331.1, bt1331.2.1, bt1331.2.2.1, bt1331.2.2.2))))))
def steelyardref07_Div.f (k : Nat) (a0_0 : Bool) (l0_1 : List Int) (l0_2 : List Int) (a1_0 : Bool) (l1_1 : List Int) (l1_2 : List Int) : Option (Bool × List Int × List Int × Int) := (steelyardref07_Good.f k a0_0 l0_1 l0_2).bind fun t1318 => (if t1318 = true then ((steelyardref07_Good.f k a1_0 l1_1 l1_2).bind fun t1319 => (steelyardref07_Div.j0 k (!t1319) a0_0 l0_1 l0_2 a1_0 l1_1 l1_2)) else (steelyardref07_Div.j0 k true a0_0 l0_1 l0_2 a1_0 l1_1 l1_2))
theorem steelyardref07_Div.mono_l : ∀ k, (∀ y0 y1 y2 y3 y4 y5 y6, LeO (steelyardref07_Div.j0 k y0 y1 y2 y3 y4 y5 y6) (steelyardref07_Div.j0 (k + 1) y0 y1 y2 y3 y4 y5 y6))
  | 0 => fun _ _ _ _ _ _ _ r h => by simp [steelyardref07_Div.j0] at h
  | k + 1 => by
    have ih0 := steelyardref07_Div.mono_l k
    · intro y0 y1 y2 y3 y4 y5 y6
      unfold steelyardref07_Div.j0
      repeat' first
      | (with_reducible exact ih0 _ _ _ _ _ _ _)
      | (with_reducible exact steelyardref06_Make.mono _ _ _)
      | (with_reducible exact steelyardref07_Good.mono _ _ _ _)
      | (with_reducible exact steelyardref07_Times.mono _ _ _ _ _ _ _)
      | (with_reducible exact LeO.refl _)
      | (with_reducible exact LeO.none _)
      | (with_reducible refine LeO.ite ?_ ?_)
      | (with_reducible refine LeO.bind ?_ (fun _ => ?_))
      | exact ih0 _ _ _ _ _ _ _
      | exact steelyardref06_Make.mono _ _ _
      | exact steelyardref07_Good.mono _ _ _ _
      | exact steelyardref07_Times.mono _ _ _ _ _ _ _
      | exact LeO.none _
      | refine LeO.ite ?_ ?_
      | refine LeO.bind ?_ (fun _ => ?_)
theorem steelyardref07_Div.mono : ∀ a0 a1 a2 a3 a4 a5 k, LeO (steelyardref07_Div.f k a0 a1 a2 a3 a4 a5) (steelyardref07_Div.f (k + 1) a0 a1 a2 a3 a4 a5) := by
  intro a0 a1 a2 a3 a4 a5 k
  have ih0 := steelyardref07_Div.mono_l k
  unfold steelyardref07_Div.f
  repeat' first
      | (with_reducible exact ih0 _ _ _ _ _ _ _)
      | (with_reducible exact steelyardref06_Make.mono _ _ _)
      | (with_reducible exact steelyardref07_Good.mono _ _ _ _)
      | (with_reducible exact steelyardref07_Times.mono _ _ _ _ _ _ _)
      | (with_reducible exact LeO.refl _)
      | (with_reducible exact LeO.none _)
      | (with_reducible refine LeO.ite ?_ ?_)
      | (with_reducible refine LeO.bind ?_ (fun _ => ?_))
      | exact ih0 _ _ _ _ _ _ _
      | exact steelyardref06_Make.mono _ _ _
      | exact steelyardref07_Good.mono _ _ _ _
      | exact steelyardref07_Times.mono _ _ _ _ _ _ _
      | exact LeO.none _
      | refine LeO.ite ?_ ?_
      | refine LeO.bind ?_ (fun _ => ?_)
def steelyardref07_Whole.f (k : Nat) (a0 : Int) : Option (Bool × List Int × List Int) := (steelyardref06_Of.f k a0).bind fun bt1340 => (some (bt1340.1, bt1340.2, (([1] : List Int))))
theorem steelyardref07_Whole.mono : ∀ a0 k, LeO (steelyardref07_Whole.f k a0) (steelyardref07_Whole.f (k + 1) a0) := by
  intro a0 k
  unfold steelyardref07_Whole.f
  repeat' first
      | (with_reducible exact steelyardref06_Of.mono _ _)
      | (with_reducible exact LeO.refl _)
      | (with_reducible exact LeO.none _)
      | (with_reducible refine LeO.ite ?_ ?_)
      | (with_reducible refine LeO.bind ?_ (fun _ => ?_))
      | exact steelyardref06_Of.mono _ _
      | exact LeO.none _
      | refine LeO.ite ?_ ?_
      | refine LeO.bind ?_ (fun _ => ?_)
def steelyardref07_Of.f (k : Nat) (a0_0 : Bool) (l0_1 : List Int) (l1 : List Int) : Option (Bool × List Int × List Int × Int) := (steelyardref01_Bits.f k l1).bind fun t1418 => (if t1418 = 0 then (some (false, ([] : List Int), ([] : List Int), 3)) else ((steelyardref07_Wide.f k a0_0 l0_1 l1).bind fun bt1419 => ((steelyardref07_Limit.f bt1419.1 bt1419.2.1 bt1419.2.2).bind fun bt1426 => (some (bt1426.1, bt1426.2.1, bt1426.2.2.1, bt1426.2.2.2)))))
theorem steelyardref07_Of.mono : ∀ a0 a1 a2 k, LeO (steelyardref07_Of.f k a0 a1 a2) (steelyardref07_Of.f (k + 1) a0 a1 a2) := by
  intro a0 a1 a2 k
  unfold steelyardref07_Of.f
  repeat' first
      | (with_reducible exact steelyardref01_Bits.mono _ _)
      | (with_reducible exact steelyardref07_Wide.mono _ _ _ _)
      | (with_reducible exact LeO.refl _)
      | (with_reducible exact LeO.none _)
      | (with_reducible refine LeO.ite ?_ ?_)
      | (with_reducible refine LeO.bind ?_ (fun _ => ?_))
      | exact steelyardref01_Bits.mono _ _
      | exact steelyardref07_Wide.mono _ _ _ _
      | exact LeO.none _
      | refine LeO.ite ?_ ?_
      | refine LeO.bind ?_ (fun _ => ?_)
end Go.Proofs.YtnilfndadahgaaaDoor.P
set_option linter.unusedVariables false
set_option linter.unusedSimpArgs false
namespace Go.Proofs.YtnilfndadahgaaaDoor.P
open Go.RowKit Go.Proofs.YtnilfndadahgaaaDoorW.PrintWords Go.Proofs.YtnilfndadahgaaaDoorW.PrintLast Go.Proofs.YtnilfndadahgaaaDoorW.PrintMore
def steelyardlaw07_By.f (k : Nat) (a0 : Int) (a1 : Int) : Option (Bool × List Int × List Int) := (steelyardref07_Whole.f k a0).bind fun bt1348 => ((steelyardref07_Whole.f k a1).bind fun bt1355 => ((steelyardref07_Div.f k bt1348.1 bt1348.2.1 bt1348.2.2 bt1355.1 bt1355.2.1 bt1355.2.2).bind fun bt1362 => (some (bt1362.1, bt1362.2.1, bt1362.2.2.1))))
theorem steelyardlaw07_By.mono : ∀ a0 a1 k, LeO (steelyardlaw07_By.f k a0 a1) (steelyardlaw07_By.f (k + 1) a0 a1) := by
  intro a0 a1 k
  unfold steelyardlaw07_By.f
  repeat' first
      | (with_reducible exact steelyardref07_Div.mono _ _ _ _ _ _ _)
      | (with_reducible exact steelyardref07_Whole.mono _ _)
      | (with_reducible exact LeO.refl _)
      | (with_reducible exact LeO.none _)
      | (with_reducible refine LeO.ite ?_ ?_)
      | (with_reducible refine LeO.bind ?_ (fun _ => ?_))
      | exact steelyardref07_Div.mono _ _ _ _ _ _ _
      | exact steelyardref07_Whole.mono _ _
      | exact LeO.none _
      | refine LeO.ite ?_ ?_
      | refine LeO.bind ?_ (fun _ => ?_)
end Go.Proofs.YtnilfndadahgaaaDoor.P
set_option linter.unusedVariables false
set_option linter.unusedSimpArgs false
namespace Go.Proofs.YtnilfndadahgaaaDoor.P
open Go.RowKit Go.Proofs.YtnilfndadahgaaaDoorW.PrintWords Go.Proofs.YtnilfndadahgaaaDoorW.PrintLast Go.Proofs.YtnilfndadahgaaaDoorW.PrintMore
def steelyardlaw09_wakes.f (k : Nat)  : Option (Bool) := (literal_Parse.f k (⟨#[49, 50, 46, 53, 48, 101, 45, 49]⟩ : ByteArray)).bind fun bt1371 => ((literal_Parse.f k (⟨#[49, 46]⟩ : ByteArray)).bind fun bt1380 => ((literal_Parse.f k (⟨#[49, 101, 57, 48, 48]⟩ : ByteArray)).bind fun bt1389 => (if bt1371.2.2.2 = 0 then ((steelyardlaw07_By.f k 5 4).bind fun bt1398 => ((steelyardkeep_Rat.f k bt1371.1 bt1371.2.1 bt1371.2.2.1 bt1398.1 bt1398.2.1 bt1398.2.2).bind fun t1405 => (if t1405 = true then (if bt1380.2.2.2 = 12 then (if bt1389.2.2.2 = 2 then ((literal_Length.f k (⟨#[49, 46, 53, 101, 50, 51, 52, 53, 120]⟩ : ByteArray)).bind fun t1406 => (if t1406 = 7 then ((literal_Length.f k (⟨#[49, 46, 101, 50]⟩ : ByteArray)).bind fun t1407 => (if t1407 = 1 then ((literal_Length.f k (⟨#[120]⟩ : ByteArray)).bind fun t1408 => (if t1408 = 0 then ((literal_Good.f k (⟨#[48, 48, 55]⟩ : ByteArray)).bind fun t1409 => (if t1409 = true then ((literal_Good.f k (⟨#[45, 49]⟩ : ByteArray)).bind fun t1410 => (some (!t1410))) else (none))) else (none))) else (none))) else (none))) else (none)) else (none)) else (none)))) else (none))))
theorem steelyardlaw09_wakes.mono : ∀ k, LeO (steelyardlaw09_wakes.f k ) (steelyardlaw09_wakes.f (k + 1) ) := by
  intro  k
  unfold steelyardlaw09_wakes.f
  repeat' first
      | (with_reducible exact literal_Good.mono _ _)
      | (with_reducible exact literal_Length.mono _ _)
      | (with_reducible exact literal_Parse.mono _ _)
      | (with_reducible exact steelyardkeep_Rat.mono _ _ _ _ _ _ _)
      | (with_reducible exact steelyardlaw07_By.mono _ _ _)
      | (with_reducible exact LeO.refl _)
      | (with_reducible exact LeO.none _)
      | (with_reducible refine LeO.ite ?_ ?_)
      | (with_reducible refine LeO.bind ?_ (fun _ => ?_))
      | exact literal_Good.mono _ _
      | exact literal_Length.mono _ _
      | exact literal_Parse.mono _ _
      | exact steelyardkeep_Rat.mono _ _ _ _ _ _ _
      | exact steelyardlaw07_By.mono _ _ _
      | exact LeO.none _
      | refine LeO.ite ?_ ?_
      | refine LeO.bind ?_ (fun _ => ?_)
def steelyardlaw09_dec.f : Nat → Int → Option (ByteArray)
  | 0, _ => none
  | k + 1, a0 => if a0 < 10 then (some (strOfNums (([(48 + a0) % 256] : List Int)))) else ((steelyardlaw09_dec.f k (wrap64 (Int.tdiv a0 10))).bind fun t1523 => ((some (([(48 + (Int.tmod a0 10)) % 256] : List Int) : List Int)).bind fun y1524 => (if t1523.size + (strOfNums y1524).size ≤ 9223372036854775807 then (some (t1523 ++ (strOfNums y1524))) else (none))))
theorem steelyardlaw09_dec.mono_l : ∀ k, (∀ y0, LeO (steelyardlaw09_dec.f k y0) (steelyardlaw09_dec.f (k + 1) y0))
  | 0 => fun _ r h => by simp [steelyardlaw09_dec.f] at h
  | k + 1 => by
    have ih0 := steelyardlaw09_dec.mono_l k
    · intro y0
      unfold steelyardlaw09_dec.f
      repeat' first
      | (with_reducible exact ih0 _)
      | (with_reducible exact LeO.refl _)
      | (with_reducible exact LeO.none _)
      | (with_reducible refine LeO.ite ?_ ?_)
      | (with_reducible refine LeO.bind ?_ (fun _ => ?_))
      | exact ih0 _
      | exact LeO.none _
      | refine LeO.ite ?_ ?_
      | refine LeO.bind ?_ (fun _ => ?_)
theorem steelyardlaw09_dec.mono : ∀ a0 k, LeO (steelyardlaw09_dec.f k a0) (steelyardlaw09_dec.f (k + 1) a0) := by
  intro a0 k
  have ih0 := steelyardlaw09_dec.mono_l k
  exact ih0 a0
end Go.Proofs.YtnilfndadahgaaaDoor.P
set_option linter.unusedVariables false
set_option linter.unusedSimpArgs false
namespace Go.Proofs.YtnilfndadahgaaaDoor.P
open Go.RowKit Go.Proofs.YtnilfndadahgaaaDoorW.PrintWords Go.Proofs.YtnilfndadahgaaaDoorW.PrintLast Go.Proofs.YtnilfndadahgaaaDoorW.PrintMore
def steelyardref09_run.l0 : Nat → ByteArray → Int → Int → Option (Int)
  | 0, _, _, _ => none
  | k + 1, x0, x1, x5 => if (wrap64 (x1 + x5)) < (x0.size : Int) then (if 0 ≤ (wrap64 (x1 + x5)) then (if (bt x0 (wrap64 (x1 + x5))) ≥ 48 then (if (bt x0 (wrap64 (x1 + x5))) ≤ 57 then (steelyardref09_run.l0 k x0 x1 (wrap64 (x5 + 1))) else (some x5)) else (some x5)) else (none)) else (some x5)
def steelyardref09_run.f (k : Nat) (a0 : ByteArray) (a1 : Int) : Option (Int) := steelyardref09_run.l0 k a0 a1 0
theorem steelyardref09_run.mono_l : ∀ k, (∀ y0 y1 y2, LeO (steelyardref09_run.l0 k y0 y1 y2) (steelyardref09_run.l0 (k + 1) y0 y1 y2))
  | 0 => fun _ _ _ r h => by simp [steelyardref09_run.l0] at h
  | k + 1 => by
    have ih0 := steelyardref09_run.mono_l k
    · intro y0 y1 y2
      unfold steelyardref09_run.l0
      repeat' first
      | (with_reducible exact ih0 _ _ _)
      | (with_reducible exact LeO.refl _)
      | (with_reducible exact LeO.none _)
      | (with_reducible refine LeO.ite ?_ ?_)
      | (with_reducible refine LeO.bind ?_ (fun _ => ?_))
      | exact ih0 _ _ _
      | exact LeO.none _
      | refine LeO.ite ?_ ?_
      | refine LeO.bind ?_ (fun _ => ?_)
theorem steelyardref09_run.mono : ∀ a0 a1 k, LeO (steelyardref09_run.f k a0 a1) (steelyardref09_run.f (k + 1) a0 a1) := by
  intro a0 a1 k
  have ih0 := steelyardref09_run.mono_l k
  unfold steelyardref09_run.f
  repeat' first
      | (with_reducible exact ih0 _ _ _)
      | (with_reducible exact LeO.refl _)
      | (with_reducible exact LeO.none _)
      | (with_reducible refine LeO.ite ?_ ?_)
      | (with_reducible refine LeO.bind ?_ (fun _ => ?_))
      | exact ih0 _ _ _
      | exact LeO.none _
      | refine LeO.ite ?_ ?_
      | refine LeO.bind ?_ (fun _ => ?_)
mutual
def steelyardref09_Length.j0 : Nat → ByteArray → Int → Bool → Option (Int)
  | 0, _, _, _ => none
  | k + 1, x0, x3, x20 => if x20 = true then ((steelyardref09_run.f k x0 (wrap64 (x3 + 1))).bind fun t1412 => (if t1412 > 0 then (steelyardref09_Length.j1 k x0 (wrap64 (x3 + (wrap64 (1 + t1412))))) else (steelyardref09_Length.j1 k x0 x3))) else (steelyardref09_Length.j1 k x0 x3)
def steelyardref09_Length.j1 : Nat → ByteArray → Int → Option (Int)
  | 0, _, _ => none
  | k + 1, x0, x3 => if x3 < (x0.size : Int) then (if 0 ≤ x3 then (steelyardref09_Length.j2 k x0 x3 ((bt x0 x3) == 101)) else (none)) else (steelyardref09_Length.j2 k x0 x3 false)
def steelyardref09_Length.j2 : Nat → ByteArray → Int → Bool → Option (Int)
  | 0, _, _, _ => none
  | k + 1, x0, x3, x40 => if x40 = true then (if (wrap64 (x3 + 1)) < (x0.size : Int) then (if 0 ≤ (wrap64 (x3 + 1)) then (steelyardref09_Length.j3 k x0 x3 (wrap64 (x3 + 1)) ((bt x0 (wrap64 (x3 + 1))) == 45)) else (none)) else (steelyardref09_Length.j3 k x0 x3 (wrap64 (x3 + 1)) false)) else (some x3)
def steelyardref09_Length.j3 : Nat → ByteArray → Int → Int → Bool → Option (Int)
  | 0, _, _, _, _ => none
  | k + 1, x0, x3, x5, x52 => if x52 = true then ((steelyardref09_run.f k x0 (wrap64 (x5 + 1))).bind fun t1413 => (if t1413 > 0 then (some (wrap64 ((wrap64 (x5 + 1)) + (mn t1413 3)))) else (some x3))) else ((steelyardref09_run.f k x0 x5).bind fun t1414 => (if t1414 > 0 then (some (wrap64 (x5 + (mn t1414 3)))) else (some x3)))
end
def steelyardref09_Length.f (k : Nat) (a0 : ByteArray) : Option (Int) := (steelyardref09_run.f k a0 0).bind fun t1411 => (if t1411 = 0 then (some 0) else (if t1411 < (a0.size : Int) then (if 0 ≤ t1411 then (steelyardref09_Length.j0 k a0 t1411 ((bt a0 t1411) == 46)) else (none)) else (steelyardref09_Length.j0 k a0 t1411 false)))
theorem steelyardref09_Length.mono_l : ∀ k, (∀ y0 y1 y2, LeO (steelyardref09_Length.j0 k y0 y1 y2) (steelyardref09_Length.j0 (k + 1) y0 y1 y2)) ∧ (∀ y0 y1, LeO (steelyardref09_Length.j1 k y0 y1) (steelyardref09_Length.j1 (k + 1) y0 y1)) ∧ (∀ y0 y1 y2, LeO (steelyardref09_Length.j2 k y0 y1 y2) (steelyardref09_Length.j2 (k + 1) y0 y1 y2)) ∧ (∀ y0 y1 y2 y3, LeO (steelyardref09_Length.j3 k y0 y1 y2 y3) (steelyardref09_Length.j3 (k + 1) y0 y1 y2 y3))
  | 0 => ⟨fun _ _ _ r h => by simp [steelyardref09_Length.j0] at h, fun _ _ r h => by simp [steelyardref09_Length.j1] at h, fun _ _ _ r h => by simp [steelyardref09_Length.j2] at h, fun _ _ _ _ r h => by simp [steelyardref09_Length.j3] at h⟩
  | k + 1 => by
    obtain ⟨ih0, ih1, ih2, ih3⟩ := steelyardref09_Length.mono_l k
    refine ⟨?_, ?_, ?_, ?_⟩
    · intro y0 y1 y2
      unfold steelyardref09_Length.j0
      repeat' first
      | (with_reducible exact ih0 _ _ _)
      | (with_reducible exact ih1 _ _)
      | (with_reducible exact ih2 _ _ _)
      | (with_reducible exact ih3 _ _ _ _)
      | (with_reducible exact steelyardref09_run.mono _ _ _)
      | (with_reducible exact LeO.refl _)
      | (with_reducible exact LeO.none _)
      | (with_reducible refine LeO.ite ?_ ?_)
      | (with_reducible refine LeO.bind ?_ (fun _ => ?_))
      | exact ih0 _ _ _
      | exact ih1 _ _
      | exact ih2 _ _ _
      | exact ih3 _ _ _ _
      | exact steelyardref09_run.mono _ _ _
      | exact LeO.none _
      | refine LeO.ite ?_ ?_
      | refine LeO.bind ?_ (fun _ => ?_)
    · intro y0 y1
      unfold steelyardref09_Length.j1
      repeat' first
      | (with_reducible exact ih0 _ _ _)
      | (with_reducible exact ih1 _ _)
      | (with_reducible exact ih2 _ _ _)
      | (with_reducible exact ih3 _ _ _ _)
      | (with_reducible exact steelyardref09_run.mono _ _ _)
      | (with_reducible exact LeO.refl _)
      | (with_reducible exact LeO.none _)
      | (with_reducible refine LeO.ite ?_ ?_)
      | (with_reducible refine LeO.bind ?_ (fun _ => ?_))
      | exact ih0 _ _ _
      | exact ih1 _ _
      | exact ih2 _ _ _
      | exact ih3 _ _ _ _
      | exact steelyardref09_run.mono _ _ _
      | exact LeO.none _
      | refine LeO.ite ?_ ?_
      | refine LeO.bind ?_ (fun _ => ?_)
    · intro y0 y1 y2
      unfold steelyardref09_Length.j2
      repeat' first
      | (with_reducible exact ih0 _ _ _)
      | (with_reducible exact ih1 _ _)
      | (with_reducible exact ih2 _ _ _)
      | (with_reducible exact ih3 _ _ _ _)
      | (with_reducible exact steelyardref09_run.mono _ _ _)
      | (with_reducible exact LeO.refl _)
      | (with_reducible exact LeO.none _)
      | (with_reducible refine LeO.ite ?_ ?_)
      | (with_reducible refine LeO.bind ?_ (fun _ => ?_))
      | exact ih0 _ _ _
      | exact ih1 _ _
      | exact ih2 _ _ _
      | exact ih3 _ _ _ _
      | exact steelyardref09_run.mono _ _ _
      | exact LeO.none _
      | refine LeO.ite ?_ ?_
      | refine LeO.bind ?_ (fun _ => ?_)
    · intro y0 y1 y2 y3
      unfold steelyardref09_Length.j3
      repeat' first
      | (with_reducible exact ih0 _ _ _)
      | (with_reducible exact ih1 _ _)
      | (with_reducible exact ih2 _ _ _)
      | (with_reducible exact ih3 _ _ _ _)
      | (with_reducible exact steelyardref09_run.mono _ _ _)
      | (with_reducible exact LeO.refl _)
      | (with_reducible exact LeO.none _)
      | (with_reducible refine LeO.ite ?_ ?_)
      | (with_reducible refine LeO.bind ?_ (fun _ => ?_))
      | exact ih0 _ _ _
      | exact ih1 _ _
      | exact ih2 _ _ _
      | exact ih3 _ _ _ _
      | exact steelyardref09_run.mono _ _ _
      | exact LeO.none _
      | refine LeO.ite ?_ ?_
      | refine LeO.bind ?_ (fun _ => ?_)
theorem steelyardref09_Length.mono : ∀ a0 k, LeO (steelyardref09_Length.f k a0) (steelyardref09_Length.f (k + 1) a0) := by
  intro a0 k
  obtain ⟨ih0, ih1, ih2, ih3⟩ := steelyardref09_Length.mono_l k
  unfold steelyardref09_Length.f
  repeat' first
      | (with_reducible exact ih0 _ _ _)
      | (with_reducible exact ih1 _ _)
      | (with_reducible exact ih2 _ _ _)
      | (with_reducible exact ih3 _ _ _ _)
      | (with_reducible exact steelyardref09_run.mono _ _ _)
      | (with_reducible exact LeO.refl _)
      | (with_reducible exact LeO.none _)
      | (with_reducible refine LeO.ite ?_ ?_)
      | (with_reducible refine LeO.bind ?_ (fun _ => ?_))
      | exact ih0 _ _ _
      | exact ih1 _ _
      | exact ih2 _ _ _
      | exact ih3 _ _ _ _
      | exact steelyardref09_run.mono _ _ _
      | exact LeO.none _
      | refine LeO.ite ?_ ?_
      | refine LeO.bind ?_ (fun _ => ?_)
def steelyardref09_Good.f (k : Nat) (a0 : ByteArray) : Option (Bool) := if (a0.size : Int) ≥ 1 then (if (a0.size : Int) ≤ 400 then ((steelyardref09_Length.f k a0).bind fun t1415 => (some (t1415 == (a0.size : Int)))) else (some false)) else (some false)
theorem steelyardref09_Good.mono : ∀ a0 k, LeO (steelyardref09_Good.f k a0) (steelyardref09_Good.f (k + 1) a0) := by
  intro a0 k
  unfold steelyardref09_Good.f
  repeat' first
      | (with_reducible exact steelyardref09_Length.mono _ _)
      | (with_reducible exact LeO.refl _)
      | (with_reducible exact LeO.none _)
      | (with_reducible refine LeO.ite ?_ ?_)
      | (with_reducible refine LeO.bind ?_ (fun _ => ?_))
      | exact steelyardref09_Length.mono _ _
      | exact LeO.none _
      | refine LeO.ite ?_ ?_
      | refine LeO.bind ?_ (fun _ => ?_)
def steelyardref09_Parse.l0 : Nat → ByteArray → ByteArray → Int → Int → Int → Bool → Bool → Int → Option (Bool × List Int × List Int × Int)
  | 0, _, _, _, _, _, _, _, _ => none
  | k + 1, x0, x3, x4, x5, x6, x7, x8, x9 => if x9 < (x0.size : Int) then (if 0 ≤ x9 then (if (bt x0 x9) = 46 then (steelyardref09_Parse.l0 k x0 x3 x4 x5 x6 true x8 (wrap64 (x9 + 1))) else (if (bt x0 x9) = 101 then (steelyardref09_Parse.l0 k x0 x3 x4 x5 x6 x7 true (wrap64 (x9 + 1))) else (if (bt x0 x9) = 45 then (steelyardref09_Parse.l0 k x0 x3 x4 x5 (-1) x7 x8 (wrap64 (x9 + 1))) else (if x8 = true then (steelyardref09_Parse.l0 k x0 x3 x4 (wrap64 ((wrap64 (x5 * 10)) + (((bt x0 x9) - 48) % 256))) x6 x7 x8 (wrap64 (x9 + 1))) else (if x9 ≤ (wrap64 (x9 + 1)) then (if (wrap64 (x9 + 1)) ≤ (x0.size : Int) then (if x3.size + (x0.extract (x9 : Int).toNat ((wrap64 (x9 + 1)) : Int).toNat).size ≤ 9223372036854775807 then (if x7 = true then (steelyardref09_Parse.l0 k x0 (x3 ++ (x0.extract (x9 : Int).toNat ((wrap64 (x9 + 1)) : Int).toNat)) (wrap64 (x4 + 1)) x5 x6 x7 x8 (wrap64 (x9 + 1))) else (steelyardref09_Parse.l0 k x0 (x3 ++ (x0.extract (x9 : Int).toNat ((wrap64 (x9 + 1)) : Int).toNat)) x4 x5 x6 x7 x8 (wrap64 (x9 + 1)))) else (none)) else (none)) else (none)))))) else (none)) else ((steelyardref05_Parse.f k x3).bind fun bt1442 => ((steelyardref06_Make.f k false bt1442.1).bind fun bt1446 => (if (wrap64 ((wrap64 (x6 * x5)) - x4)) ≥ 0 then ((steelyardref05_Ten.f k (wrap64 ((wrap64 (x6 * x5)) - x4))).bind fun t1451 => ((steelyardref06_Make.f k false t1451).bind fun bt1454 => ((steelyardref06_Mul.f k bt1446.1 bt1446.2 bt1454.1 bt1454.2).bind fun bt1458 => ((steelyardref05_Ten.f k 0).bind fun t1462 => ((steelyardref07_Of.f k bt1458.1 bt1458.2 t1462).bind fun bt1465 => (some (bt1465.1, bt1465.2.1, bt1465.2.2.1, bt1465.2.2.2))))))) else ((steelyardref05_Ten.f k (wrap64 (-(wrap64 ((wrap64 (x6 * x5)) - x4))))).bind fun t1473 => ((steelyardref07_Of.f k bt1446.1 bt1446.2 t1473).bind fun bt1476 => (some (bt1476.1, bt1476.2.1, bt1476.2.2.1, bt1476.2.2.2)))))))
def steelyardref09_Parse.f (k : Nat) (a0 : ByteArray) : Option (Bool × List Int × List Int × Int) := (steelyardref09_Good.f k a0).bind fun t1441 => (if t1441 = true then (steelyardref09_Parse.l0 k a0 (⟨#[]⟩ : ByteArray) 0 0 1 false false 0) else (some (false, ([] : List Int), ([] : List Int), 12)))
theorem steelyardref09_Parse.mono_l : ∀ k, (∀ y0 y1 y2 y3 y4 y5 y6 y7, LeO (steelyardref09_Parse.l0 k y0 y1 y2 y3 y4 y5 y6 y7) (steelyardref09_Parse.l0 (k + 1) y0 y1 y2 y3 y4 y5 y6 y7))
  | 0 => fun _ _ _ _ _ _ _ _ r h => by simp [steelyardref09_Parse.l0] at h
  | k + 1 => by
    have ih0 := steelyardref09_Parse.mono_l k
    · intro y0 y1 y2 y3 y4 y5 y6 y7
      unfold steelyardref09_Parse.l0
      repeat' first
      | (with_reducible exact ih0 _ _ _ _ _ _ _ _)
      | (with_reducible exact steelyardref05_Parse.mono _ _)
      | (with_reducible exact steelyardref05_Ten.mono _ _)
      | (with_reducible exact steelyardref06_Make.mono _ _ _)
      | (with_reducible exact steelyardref06_Mul.mono _ _ _ _ _)
      | (with_reducible exact steelyardref07_Of.mono _ _ _ _)
      | (with_reducible exact steelyardref09_Good.mono _ _)
      | (with_reducible exact LeO.refl _)
      | (with_reducible exact LeO.none _)
      | (with_reducible refine LeO.ite ?_ ?_)
      | (with_reducible refine LeO.bind ?_ (fun _ => ?_))
      | exact ih0 _ _ _ _ _ _ _ _
      | exact steelyardref05_Parse.mono _ _
      | exact steelyardref05_Ten.mono _ _
      | exact steelyardref06_Make.mono _ _ _
      | exact steelyardref06_Mul.mono _ _ _ _ _
      | exact steelyardref07_Of.mono _ _ _ _
      | exact steelyardref09_Good.mono _ _
      | exact LeO.none _
      | refine LeO.ite ?_ ?_
      | refine LeO.bind ?_ (fun _ => ?_)
theorem steelyardref09_Parse.mono : ∀ a0 k, LeO (steelyardref09_Parse.f k a0) (steelyardref09_Parse.f (k + 1) a0) := by
  intro a0 k
  have ih0 := steelyardref09_Parse.mono_l k
  unfold steelyardref09_Parse.f
  repeat' first
      | (with_reducible exact ih0 _ _ _ _ _ _ _ _)
      | (with_reducible exact steelyardref05_Parse.mono _ _)
      | (with_reducible exact steelyardref05_Ten.mono _ _)
      | (with_reducible exact steelyardref06_Make.mono _ _ _)
      | (with_reducible exact steelyardref06_Mul.mono _ _ _ _ _)
      | (with_reducible exact steelyardref07_Of.mono _ _ _ _)
      | (with_reducible exact steelyardref09_Good.mono _ _)
      | (with_reducible exact LeO.refl _)
      | (with_reducible exact LeO.none _)
      | (with_reducible refine LeO.ite ?_ ?_)
      | (with_reducible refine LeO.bind ?_ (fun _ => ?_))
      | exact ih0 _ _ _ _ _ _ _ _
      | exact steelyardref05_Parse.mono _ _
      | exact steelyardref05_Ten.mono _ _
      | exact steelyardref06_Make.mono _ _ _
      | exact steelyardref06_Mul.mono _ _ _ _ _
      | exact steelyardref07_Of.mono _ _ _ _
      | exact steelyardref09_Good.mono _ _
      | exact LeO.none _
      | refine LeO.ite ?_ ?_
      | refine LeO.bind ?_ (fun _ => ?_)
end Go.Proofs.YtnilfndadahgaaaDoor.P

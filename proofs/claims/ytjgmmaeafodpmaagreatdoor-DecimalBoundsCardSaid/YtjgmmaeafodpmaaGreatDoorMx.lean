/- Plain functions: what the Go functions of a package come to. · Plain functions: what the Go functions of a package come to. · Plain functions: what the Go functions of a package come to. · Plain functions: what the Go functions of a package come to. · Plain functions: what the Go functions of a package come to. · Plain functions: what the Go functions of a package come to. · Plain functions: what the Go functions of a package come to. · Plain functions: what the Go functions of a package come to. · Plain functions: what the Go functions of a package come to. · Plain functions: what the Go functions of a package come to. · Plain functions: what the Go functions of a package come to. · Plain functions: what the Go functions of a package come to. · Plain functions: what the Go functions of a package come to. · Plain functions: what the Go functions of a package come to. · Plain functions: what the Go functions of a package come to. · Plain functions: what the Go functions of a package come to. -/
import Derived.Test.YtjgmmaeafodpmaaGreatDoorYWords
import Derived.Lib.Strings
import Derived.Lib.CutLaws
import Derived.Lib.Repeat
set_option linter.unusedVariables false
set_option linter.unusedSimpArgs false
namespace Go.Proofs.YtjgmmaeafodpmaaGreatDoor.P
open Go.RowKit Go.Proofs.YtjgmmaeafodpmaaGreatDoorW.PrintWords Go.Proofs.YtjgmmaeafodpmaaGreatDoorW.PrintLast Go.Proofs.YtjgmmaeafodpmaaGreatDoorW.PrintMore
def len8_ : ByteArray := ⟨(([0, 1, 2, 2, 3, 3, 3, 3, 4, 4, 4, 4, 4, 4, 4, 4, 5, 5, 5, 5, 5, 5, 5, 5, 5, 5, 5, 5, 5, 5, 5, 5, 6, 6, 6, 6, 6, 6, 6, 6, 6, 6, 6, 6, 6, 6, 6, 6, 6, 6, 6, 6, 6, 6, 6, 6, 6, 6, 6, 6, 6, 6, 6, 6].append [7, 7, 7, 7, 7, 7, 7, 7, 7, 7, 7, 7, 7, 7, 7, 7, 7, 7, 7, 7, 7, 7, 7, 7, 7, 7, 7, 7, 7, 7, 7, 7, 7, 7, 7, 7, 7, 7, 7, 7, 7, 7, 7, 7, 7, 7, 7, 7, 7, 7, 7, 7, 7, 7, 7, 7, 7, 7, 7, 7, 7, 7, 7, 7]).append ([8, 8, 8, 8, 8, 8, 8, 8, 8, 8, 8, 8, 8, 8, 8, 8, 8, 8, 8, 8, 8, 8, 8, 8, 8, 8, 8, 8, 8, 8, 8, 8, 8, 8, 8, 8, 8, 8, 8, 8, 8, 8, 8, 8, 8, 8, 8, 8, 8, 8, 8, 8, 8, 8, 8, 8, 8, 8, 8, 8, 8, 8, 8, 8].append [8, 8, 8, 8, 8, 8, 8, 8, 8, 8, 8, 8, 8, 8, 8, 8, 8, 8, 8, 8, 8, 8, 8, 8, 8, 8, 8, 8, 8, 8, 8, 8, 8, 8, 8, 8, 8, 8, 8, 8, 8, 8, 8, 8, 8, 8, 8, 8, 8, 8, 8, 8, 8, 8, 8, 8, 8, 8, 8, 8, 8, 8, 8, 8])).toArray⟩
def bits_Len32.f (a0 : Int) : Option (Int) := if a0 ≥ 65536 then (if (a0 / 65536) ≥ 256 then (if 0 ≤ (((a0 / 65536) / 256) % 256) then (if (((a0 / 65536) / 256) % 256) < 256 then (some (wrap64 ((16 + 8) + (wrap64 (bt len8_ (((a0 / 65536) / 256) % 256)))))) else (none)) else (none)) else (if 0 ≤ ((a0 / 65536) % 256) then (if ((a0 / 65536) % 256) < 256 then (some (wrap64 (16 + (wrap64 (bt len8_ ((a0 / 65536) % 256)))))) else (none)) else (none))) else (if a0 ≥ 256 then (if 0 ≤ ((a0 / 256) % 256) then (if ((a0 / 256) % 256) < 256 then (some (wrap64 ((0 + 8) + (wrap64 (bt len8_ ((a0 / 256) % 256)))))) else (none)) else (none)) else (if 0 ≤ ((a0) % 256) then (if ((a0) % 256) < 256 then (some (wrap64 (0 + (wrap64 (bt len8_ ((a0) % 256)))))) else (none)) else (none)))
def bits_LeadingZeros32.f (a0 : Int) : Option (Int) := (bits_Len32.f a0).bind fun t113 => (some (wrap64 (32 - t113)))
def cmp_isNaN_int.f (a0 : Int) : Option (Bool) := some (a0 != a0)
def cmp_Compare_int.f (a0 : Int) (a1 : Int) : Option (Int) := (cmp_isNaN_int.f a0).bind fun t186 => ((cmp_isNaN_int.f a1).bind fun t187 => (if t186 = true then (if t187 = true then (some 0) else (some (-1))) else (if t187 = true then (some 1) else (if a0 < a1 then (some (-1)) else (if a0 > a1 then (some 1) else (some 0))))))
def cmp_isNaN_uint32.f (a0 : Int) : Option (Bool) := some (a0 != a0)
def cmp_Compare_uint32.f (a0 : Int) (a1 : Int) : Option (Int) := (cmp_isNaN_uint32.f a0).bind fun t188 => ((cmp_isNaN_uint32.f a1).bind fun t189 => (if t188 = true then (if t189 = true then (some 0) else (some (-1))) else (if t189 = true then (some 1) else (if a0 < a1 then (some (-1)) else (if a0 > a1 then (some 1) else (some 0))))))
def bits_Sub32.f (a0 : Int) (a1 : Int) (a2 : Int) : Option (Int × Int) := some ((((a0 - a1) % 4294967296) - a2) % 4294967296, (Go.bits .or .u32 (Go.bits .and .u32 (Go.bits .xor .u32 4294967295 a0) a1) (Go.bits .and .u32 (Go.bits .xor .u32 4294967295 (Go.bits .xor .u32 a0 a1)) ((((a0 - a1) % 4294967296) - a2) % 4294967296))) / 2147483648)
def bits_Add32.f (a0 : Int) (a1 : Int) (a2 : Int) : Option (Int × Int) := some ((IntKind.u64.wrap ((IntKind.u64.wrap ((IntKind.u64.wrap (a0)) + (IntKind.u64.wrap (a1)))) + (IntKind.u64.wrap (a2)))) % 4294967296, ((IntKind.u64.wrap ((IntKind.u64.wrap ((IntKind.u64.wrap (a0)) + (IntKind.u64.wrap (a1)))) + (IntKind.u64.wrap (a2)))) / 4294967296) % 4294967296)
def bits_Div32.f (a0 : Int) (a1 : Int) (a2 : Int) : Option (Int × Int) := if a2 = 0 then (if (IntKind.u64.wrap (a2)) = 0 then (none) else (some ((IntKind.u64.wrap (Int.tdiv (Go.bits .or .u64 (IntKind.u64.wrap ((IntKind.u64.wrap (a0)) * 4294967296)) (IntKind.u64.wrap (a1))) (IntKind.u64.wrap (a2)))) % 4294967296, (Int.tmod (Go.bits .or .u64 (IntKind.u64.wrap ((IntKind.u64.wrap (a0)) * 4294967296)) (IntKind.u64.wrap (a1))) (IntKind.u64.wrap (a2))) % 4294967296))) else (if a2 ≤ a0 then (none) else (if (IntKind.u64.wrap (a2)) = 0 then (none) else (some ((IntKind.u64.wrap (Int.tdiv (Go.bits .or .u64 (IntKind.u64.wrap ((IntKind.u64.wrap (a0)) * 4294967296)) (IntKind.u64.wrap (a1))) (IntKind.u64.wrap (a2)))) % 4294967296, (Int.tmod (Go.bits .or .u64 (IntKind.u64.wrap ((IntKind.u64.wrap (a0)) * 4294967296)) (IntKind.u64.wrap (a1))) (IntKind.u64.wrap (a2))) % 4294967296))))
def slices_Reverse_byte_byte.l0 : Nat → List Int → Int → Int → Option (List Int)
  | 0, _, _, _ => none
  | k + 1, x0, x2, x3 => if x2 < x3 then (if 0 ≤ x3 then (if x3 < (x0.length : Int) then (if 0 ≤ x2 then (if x2 < (x0.length : Int) then (slices_Reverse_byte_byte.l0 k ((x0.set (x2 : Int).toNat (rd x0 x3)).set (x3 : Int).toNat (rd x0 x2)) (wrap64 (x2 + 1)) (wrap64 (x3 - 1))) else (none)) else (none)) else (none)) else (none)) else (some x0)
def slices_Reverse_byte_byte.f (k : Nat) (l0 : List Int) : Option (List Int) := slices_Reverse_byte_byte.l0 k l0 0 (wrap64 ((l0.length : Int) - 1))
theorem slices_Reverse_byte_byte.mono_l : ∀ k, (∀ y0 y1 y2, LeO (slices_Reverse_byte_byte.l0 k y0 y1 y2) (slices_Reverse_byte_byte.l0 (k + 1) y0 y1 y2))
  | 0 => fun _ _ _ r h => by simp [slices_Reverse_byte_byte.l0] at h
  | k + 1 => by
    have ih0 := slices_Reverse_byte_byte.mono_l k
    · intro y0 y1 y2
      unfold slices_Reverse_byte_byte.l0
      repeat' first
       | with_reducible first
        | exact ih0 _ _ _
        | exact LeO.refl _
        | exact LeO.none _
        | refine LeO.ite ?_ ?_
        | refine LeO.bind ?_ (fun _ => ?_)
       | exact LeO.none _ | refine LeO.ite ?_ ?_ | refine LeO.bind ?_ (fun _ => ?_)
theorem slices_Reverse_byte_byte.mono : ∀ a0 k, LeO (slices_Reverse_byte_byte.f k a0) (slices_Reverse_byte_byte.f (k + 1) a0) := by
  intro a0 k
  have ih0 := slices_Reverse_byte_byte.mono_l k
  unfold slices_Reverse_byte_byte.f
  repeat' first
   | with_reducible first
    | exact ih0 _ _ _
    | exact LeO.refl _
    | exact LeO.none _
    | refine LeO.ite ?_ ?_
    | refine LeO.bind ?_ (fun _ => ?_)
   | exact LeO.none _ | refine LeO.ite ?_ ?_ | refine LeO.bind ?_ (fun _ => ?_)
def bits_Mul32.f (a0 : Int) (a1 : Int) : Option (Int × Int) := some (((IntKind.u64.wrap ((IntKind.u64.wrap (a0)) * (IntKind.u64.wrap (a1)))) / 4294967296) % 4294967296, (IntKind.u64.wrap ((IntKind.u64.wrap (a0)) * (IntKind.u64.wrap (a1)))) % 4294967296)
def bits_Mul64.f (a0 : Int) (a1 : Int) : Option (Int × Int) := some (IntKind.u64.wrap ((IntKind.u64.wrap ((IntKind.u64.wrap ((a0 / 4294967296) * (a1 / 4294967296))) + ((IntKind.u64.wrap ((IntKind.u64.wrap ((a0 / 4294967296) * (Go.bits .and .u64 a1 4294967295))) + ((IntKind.u64.wrap ((Go.bits .and .u64 a0 4294967295) * (Go.bits .and .u64 a1 4294967295))) / 4294967296))) / 4294967296))) + ((IntKind.u64.wrap ((Go.bits .and .u64 (IntKind.u64.wrap ((IntKind.u64.wrap ((a0 / 4294967296) * (Go.bits .and .u64 a1 4294967295))) + ((IntKind.u64.wrap ((Go.bits .and .u64 a0 4294967295) * (Go.bits .and .u64 a1 4294967295))) / 4294967296))) 4294967295) + (IntKind.u64.wrap ((Go.bits .and .u64 a0 4294967295) * (a1 / 4294967296))))) / 4294967296)), IntKind.u64.wrap (a0 * a1))
def bits_Mul.f (a0 : Int) (a1 : Int) : Option (Int × Int) := (bits_Mul64.f a0 a1).bind fun bt569 => (some (bt569.1, bt569.2))
def stringslite_HasPrefix.f (a0 : ByteArray) (a1 : ByteArray) : Option (Bool) := if (a0.size : Int) ≥ (a1.size : Int) then (if 0 ≤ (a1.size : Int) then (if (a1.size : Int) ≤ (a0.size : Int) then (some ((a0.extract 0 ((a1.size : Int) : Int).toNat).toList == a1.toList)) else (none)) else (none)) else (some false)
def strings_HasPrefix.f (a0 : ByteArray) (a1 : ByteArray) : Option (Bool) := (stringslite_HasPrefix.f a0 a1).bind fun t571 => (some t571)
def strings_Repeat.f (a0 : ByteArray) (a1 : Int) : Option (ByteArray) := if 0 ≤ a1 then (if a1 ≤ 9223372036854775807 then (if a0.size * a1.toNat ≤ 140737488355328 then some ⟨(Go.Lib.repeatL a0.data.toList a1.toNat).toArray⟩ else none) else none) else none
def bytealg_Cutover.f (a0 : Int) : Option (Int) := some (wrap64 (Int.tdiv (wrap64 (a0 + 16)) 8))
mutual
def bytealg_hashStr_string.l0 : Nat → ByteArray → Int → Int → Option (Int × Int)
  | 0, _, _, _ => none
  | k + 1, x0, x4, x5 => if x5 < (x0.size : Int) then (if 0 ≤ x5 then (bytealg_hashStr_string.l0 k x0 ((((x4 * 16777619) % 4294967296) + ((bt x0 x5) % 4294967296)) % 4294967296) (wrap64 (x5 + 1))) else (none)) else (bytealg_hashStr_string.l1 k x4 1 16777619 (x0.size : Int))
def bytealg_hashStr_string.l1 : Nat → Int → Int → Int → Int → Option (Int × Int)
  | 0, _, _, _, _ => none
  | k + 1, x4, x6, x7, x8 => if x8 > 0 then (if (Go.bits .and .i64 x8 1) = 0 then (bytealg_hashStr_string.l1 k x4 x6 ((x7 * x7) % 4294967296) (x8 / 2)) else (bytealg_hashStr_string.l1 k x4 ((x6 * x7) % 4294967296) ((x7 * x7) % 4294967296) (x8 / 2))) else (some (x4, x6))
end
def bytealg_hashStr_string.f (k : Nat) (a0 : ByteArray) : Option (Int × Int) := bytealg_hashStr_string.l0 k a0 0 0
theorem bytealg_hashStr_string.mono_l : ∀ k, (∀ y0 y1 y2, LeO (bytealg_hashStr_string.l0 k y0 y1 y2) (bytealg_hashStr_string.l0 (k + 1) y0 y1 y2)) ∧ (∀ y0 y1 y2 y3, LeO (bytealg_hashStr_string.l1 k y0 y1 y2 y3) (bytealg_hashStr_string.l1 (k + 1) y0 y1 y2 y3))
  | 0 => ⟨fun _ _ _ r h => by simp [bytealg_hashStr_string.l0] at h, fun _ _ _ _ r h => by simp [bytealg_hashStr_string.l1] at h⟩
  | k + 1 => by
    obtain ⟨ih0, ih1⟩ := bytealg_hashStr_string.mono_l k
    refine ⟨?_, ?_⟩
    · intro y0 y1 y2
      unfold bytealg_hashStr_string.l0
      repeat' first
       | with_reducible first
        | exact ih0 _ _ _
        | exact ih1 _ _ _ _
        | exact LeO.refl _
        | exact LeO.none _
        | refine LeO.ite ?_ ?_
        | refine LeO.bind ?_ (fun _ => ?_)
       | exact LeO.none _ | refine LeO.ite ?_ ?_ | refine LeO.bind ?_ (fun _ => ?_)
    · intro y0 y1 y2 y3
      unfold bytealg_hashStr_string.l1
      repeat' first
       | with_reducible first
        | exact ih0 _ _ _
        | exact ih1 _ _ _ _
        | exact LeO.refl _
        | exact LeO.none _
        | refine LeO.ite ?_ ?_
        | refine LeO.bind ?_ (fun _ => ?_)
       | exact LeO.none _ | refine LeO.ite ?_ ?_ | refine LeO.bind ?_ (fun _ => ?_)
theorem bytealg_hashStr_string.mono : ∀ a0 k, LeO (bytealg_hashStr_string.f k a0) (bytealg_hashStr_string.f (k + 1) a0) := by
  intro a0 k
  obtain ⟨ih0, ih1⟩ := bytealg_hashStr_string.mono_l k
  unfold bytealg_hashStr_string.f
  repeat' first
   | with_reducible first
    | exact ih0 _ _ _
    | exact ih1 _ _ _ _
    | exact LeO.refl _
    | exact LeO.none _
    | refine LeO.ite ?_ ?_
    | refine LeO.bind ?_ (fun _ => ?_)
   | exact LeO.none _ | refine LeO.ite ?_ ?_ | refine LeO.bind ?_ (fun _ => ?_)
mutual
def bytealg_IndexRabinKarp_string.l0 : Nat → ByteArray → ByteArray → Int → Int → Int → Int → Int → Option (Int)
  | 0, _, _, _, _, _, _, _ => none
  | k + 1, x0, x1, x5, x6, x7, x8, x9 => if x9 < x7 then (if 0 ≤ x9 then (if x9 < (x0.size : Int) then (bytealg_IndexRabinKarp_string.l0 k x0 x1 x5 x6 x7 ((((x8 * 16777619) % 4294967296) + ((bt x0 x9) % 4294967296)) % 4294967296) (wrap64 (x9 + 1))) else (none)) else (none)) else (if x8 = x5 then (if 0 ≤ x7 then (if x7 ≤ (x0.size : Int) then (bytealg_IndexRabinKarp_string.j1 k x0 x1 x5 x6 x7 x8 ((x0.extract 0 (x7 : Int).toNat).toList == x1.toList)) else (none)) else (none)) else (bytealg_IndexRabinKarp_string.j1 k x0 x1 x5 x6 x7 x8 false))
def bytealg_IndexRabinKarp_string.j1 : Nat → ByteArray → ByteArray → Int → Int → Int → Int → Bool → Option (Int)
  | 0, _, _, _, _, _, _, _ => none
  | k + 1, x0, x1, x5, x6, x7, x8, x39 => if x39 = true then (some 0) else (bytealg_IndexRabinKarp_string.l1 k x0 x1 x5 x6 x7 x8 x7)
def bytealg_IndexRabinKarp_string.l1 : Nat → ByteArray → ByteArray → Int → Int → Int → Int → Int → Option (Int)
  | 0, _, _, _, _, _, _, _ => none
  | k + 1, x0, x1, x5, x6, x7, x8, x10 => if x10 < (x0.size : Int) then (if 0 ≤ x10 then (if 0 ≤ (wrap64 (x10 - x7)) then (if (wrap64 (x10 - x7)) < (x0.size : Int) then (if ((((((x8 * 16777619) % 4294967296) + ((bt x0 x10) % 4294967296)) % 4294967296) - ((x6 * ((bt x0 (wrap64 (x10 - x7))) % 4294967296)) % 4294967296)) % 4294967296) = x5 then (if 0 ≤ (wrap64 ((wrap64 (x10 + 1)) - x7)) then (if (wrap64 ((wrap64 (x10 + 1)) - x7)) ≤ (wrap64 (x10 + 1)) then (if (wrap64 (x10 + 1)) ≤ (x0.size : Int) then (if (x0.extract ((wrap64 ((wrap64 (x10 + 1)) - x7)) : Int).toNat ((wrap64 (x10 + 1)) : Int).toNat).toList = x1.toList then (some (wrap64 ((wrap64 (x10 + 1)) - x7))) else (bytealg_IndexRabinKarp_string.l1 k x0 x1 x5 x6 x7 ((((((x8 * 16777619) % 4294967296) + ((bt x0 x10) % 4294967296)) % 4294967296) - ((x6 * ((bt x0 (wrap64 (x10 - x7))) % 4294967296)) % 4294967296)) % 4294967296) (wrap64 (x10 + 1)))) else (none)) else (none)) else (none)) else (bytealg_IndexRabinKarp_string.l1 k x0 x1 x5 x6 x7 ((((((x8 * 16777619) % 4294967296) + ((bt x0 x10) % 4294967296)) % 4294967296) - ((x6 * ((bt x0 (wrap64 (x10 - x7))) % 4294967296)) % 4294967296)) % 4294967296) (wrap64 (x10 + 1)))) else (none)) else (none)) else (none)) else (some (-1))
end
def bytealg_IndexRabinKarp_string.f (k : Nat) (a0 : ByteArray) (a1 : ByteArray) : Option (Int) := (bytealg_hashStr_string.f k a1).bind fun bt1482 => (bytealg_IndexRabinKarp_string.l0 k a0 a1 bt1482.1 bt1482.2 (a1.size : Int) 0 0)
theorem bytealg_IndexRabinKarp_string.mono_l : ∀ k, (∀ y0 y1 y2 y3 y4 y5 y6, LeO (bytealg_IndexRabinKarp_string.l0 k y0 y1 y2 y3 y4 y5 y6) (bytealg_IndexRabinKarp_string.l0 (k + 1) y0 y1 y2 y3 y4 y5 y6)) ∧ (∀ y0 y1 y2 y3 y4 y5 y6, LeO (bytealg_IndexRabinKarp_string.j1 k y0 y1 y2 y3 y4 y5 y6) (bytealg_IndexRabinKarp_string.j1 (k + 1) y0 y1 y2 y3 y4 y5 y6)) ∧ (∀ y0 y1 y2 y3 y4 y5 y6, LeO (bytealg_IndexRabinKarp_string.l1 k y0 y1 y2 y3 y4 y5 y6) (bytealg_IndexRabinKarp_string.l1 (k + 1) y0 y1 y2 y3 y4 y5 y6))
  | 0 => ⟨fun _ _ _ _ _ _ _ r h => by simp [bytealg_IndexRabinKarp_string.l0] at h, fun _ _ _ _ _ _ _ r h => by simp [bytealg_IndexRabinKarp_string.j1] at h, fun _ _ _ _ _ _ _ r h => by simp [bytealg_IndexRabinKarp_string.l1] at h⟩
  | k + 1 => by
    obtain ⟨ih0, ih1, ih2⟩ := bytealg_IndexRabinKarp_string.mono_l k
    refine ⟨?_, ?_, ?_⟩
    · intro y0 y1 y2 y3 y4 y5 y6
      unfold bytealg_IndexRabinKarp_string.l0
      repeat' first
       | with_reducible first
        | exact ih0 _ _ _ _ _ _ _
        | exact ih1 _ _ _ _ _ _ _
        | exact ih2 _ _ _ _ _ _ _
        | exact bytealg_hashStr_string.mono _ _
        | exact LeO.refl _
        | exact LeO.none _
        | refine LeO.ite ?_ ?_
        | refine LeO.bind ?_ (fun _ => ?_)
       | exact LeO.none _ | refine LeO.ite ?_ ?_ | refine LeO.bind ?_ (fun _ => ?_)
    · intro y0 y1 y2 y3 y4 y5 y6
      unfold bytealg_IndexRabinKarp_string.j1
      repeat' first
       | with_reducible first
        | exact ih0 _ _ _ _ _ _ _
        | exact ih1 _ _ _ _ _ _ _
        | exact ih2 _ _ _ _ _ _ _
        | exact bytealg_hashStr_string.mono _ _
        | exact LeO.refl _
        | exact LeO.none _
        | refine LeO.ite ?_ ?_
        | refine LeO.bind ?_ (fun _ => ?_)
       | exact LeO.none _ | refine LeO.ite ?_ ?_ | refine LeO.bind ?_ (fun _ => ?_)
    · intro y0 y1 y2 y3 y4 y5 y6
      unfold bytealg_IndexRabinKarp_string.l1
      repeat' first
       | with_reducible first
        | exact ih0 _ _ _ _ _ _ _
        | exact ih1 _ _ _ _ _ _ _
        | exact ih2 _ _ _ _ _ _ _
        | exact bytealg_hashStr_string.mono _ _
        | exact LeO.refl _
        | exact LeO.none _
        | refine LeO.ite ?_ ?_
        | refine LeO.bind ?_ (fun _ => ?_)
       | exact LeO.none _ | refine LeO.ite ?_ ?_ | refine LeO.bind ?_ (fun _ => ?_)
theorem bytealg_IndexRabinKarp_string.mono : ∀ a0 a1 k, LeO (bytealg_IndexRabinKarp_string.f k a0 a1) (bytealg_IndexRabinKarp_string.f (k + 1) a0 a1) := by
  intro a0 a1 k
  obtain ⟨ih0, ih1, ih2⟩ := bytealg_IndexRabinKarp_string.mono_l k
  unfold bytealg_IndexRabinKarp_string.f
  repeat' first
   | with_reducible first
    | exact ih0 _ _ _ _ _ _ _
    | exact ih1 _ _ _ _ _ _ _
    | exact ih2 _ _ _ _ _ _ _
    | exact bytealg_hashStr_string.mono _ _
    | exact LeO.refl _
    | exact LeO.none _
    | refine LeO.ite ?_ ?_
    | refine LeO.bind ?_ (fun _ => ?_)
   | exact LeO.none _ | refine LeO.ite ?_ ?_ | refine LeO.bind ?_ (fun _ => ?_)
def strings_Cut.f (a0 : ByteArray) (a1 : ByteArray) : Option (ByteArray × ByteArray × Bool) := if a0.size < 4294967281 then some (⟨(Go.Lib.cut a0.data.toList a1.data.toList).1.toArray⟩, ⟨(Go.Lib.cut a0.data.toList a1.data.toList).2.1.toArray⟩, (Go.Lib.cut a0.data.toList a1.data.toList).2.2) else none
def stringslite_CutPrefix.f (a0 : ByteArray) (a1 : ByteArray) : Option (ByteArray × Bool) := (stringslite_HasPrefix.f a0 a1).bind fun t1496 => (if t1496 = true then (if 0 ≤ (a1.size : Int) then (if (a1.size : Int) ≤ (a0.size : Int) then (some (a0.extract ((a1.size : Int) : Int).toNat a0.size, true)) else (none)) else (none)) else (some (a0, false)))
def strings_CutPrefix.f (a0 : ByteArray) (a1 : ByteArray) : Option (ByteArray × Bool) := (stringslite_CutPrefix.f a0 a1).bind fun bt1497 => (some (bt1497.1, bt1497.2))
end Go.Proofs.YtjgmmaeafodpmaaGreatDoor.P
set_option linter.unusedVariables false
set_option linter.unusedSimpArgs false
namespace Go.Proofs.YtjgmmaeafodpmaaGreatDoor.P
open Go.RowKit Go.Proofs.YtjgmmaeafodpmaaGreatDoorW.PrintWords Go.Proofs.YtjgmmaeafodpmaaGreatDoorW.PrintLast Go.Proofs.YtjgmmaeafodpmaaGreatDoorW.PrintMore
def nat_used.l0 : Nat → List Int → Int → Option (Int)
  | 0, _, _ => none
  | k + 1, x0, x3 => if x3 > 0 then (if 0 ≤ (wrap64 (x3 - 1)) then (if (wrap64 (x3 - 1)) < (x0.length : Int) then (if (rd x0 (wrap64 (x3 - 1))) = 0 then (nat_used.l0 k x0 (wrap64 (x3 - 1))) else (some x3)) else (none)) else (none)) else (some x3)
def nat_used.f (k : Nat) (l0 : List Int) : Option (Int) := nat_used.l0 k l0 (l0.length : Int)
theorem nat_used.mono_l : ∀ k, (∀ y0 y1, LeO (nat_used.l0 k y0 y1) (nat_used.l0 (k + 1) y0 y1))
  | 0 => fun _ _ r h => by simp [nat_used.l0] at h
  | k + 1 => by
    have ih0 := nat_used.mono_l k
    · intro y0 y1
      unfold nat_used.l0
      repeat' first
       | with_reducible first
        | exact ih0 _ _
        | exact LeO.refl _
        | exact LeO.none _
        | refine LeO.ite ?_ ?_
        | refine LeO.bind ?_ (fun _ => ?_)
       | exact LeO.none _ | refine LeO.ite ?_ ?_ | refine LeO.bind ?_ (fun _ => ?_)
theorem nat_used.mono : ∀ a0 k, LeO (nat_used.f k a0) (nat_used.f (k + 1) a0) := by
  intro a0 k
  have ih0 := nat_used.mono_l k
  unfold nat_used.f
  repeat' first
   | with_reducible first
    | exact ih0 _ _
    | exact LeO.refl _
    | exact LeO.none _
    | refine LeO.ite ?_ ?_
    | refine LeO.bind ?_ (fun _ => ?_)
   | exact LeO.none _ | refine LeO.ite ?_ ?_ | refine LeO.bind ?_ (fun _ => ?_)
def nat_Trim.f (k : Nat) (l0 : List Int) : Option (List Int) := (nat_used.f k l0).bind fun t102 => (if 0 ≤ t102 then (if (t102 : Int).toNat ≤ 70368744177664 then (some (cpy (List.replicate (t102 : Int).toNat 0) 0 l0)) else (none)) else (none))
theorem nat_Trim.mono : ∀ a0 k, LeO (nat_Trim.f k a0) (nat_Trim.f (k + 1) a0) := by
  intro a0 k
  unfold nat_Trim.f
  repeat' first
   | with_reducible first
    | exact nat_used.mono _ _
    | exact LeO.refl _
    | exact LeO.none _
    | refine LeO.ite ?_ ?_
    | refine LeO.bind ?_ (fun _ => ?_)
   | exact LeO.none _ | refine LeO.ite ?_ ?_ | refine LeO.bind ?_ (fun _ => ?_)
def nat_Of.f (k : Nat) (a0 : Int) : Option (List Int) := (nat_Trim.f k (([(a0) % 4294967296, (a0 / 4294967296) % 4294967296] : List Int))).bind fun t110 => (some t110)
theorem nat_Of.mono : ∀ a0 k, LeO (nat_Of.f k a0) (nat_Of.f (k + 1) a0) := by
  intro a0 k
  unfold nat_Of.f
  repeat' first
   | with_reducible first
    | exact nat_Trim.mono _ _
    | exact LeO.refl _
    | exact LeO.none _
    | refine LeO.ite ?_ ?_
    | refine LeO.bind ?_ (fun _ => ?_)
   | exact LeO.none _ | refine LeO.ite ?_ ?_ | refine LeO.bind ?_ (fun _ => ?_)
def nat_Cmp.l0 : Nat → List Int → List Int → Int → Option (Int)
  | 0, _, _, _ => none
  | k + 1, x0, x1, x7 => if x7 ≥ 0 then (if 0 ≤ x7 then (if x7 < (x0.length : Int) then (if x7 < (x1.length : Int) then ((cmp_Compare_uint32.f (rd x0 x7) (rd x1 x7)).bind fun t195 => (if t195 = 0 then (nat_Cmp.l0 k x0 x1 (wrap64 (x7 - 1))) else (some t195))) else (none)) else (none)) else (none)) else (some 0)
def nat_Cmp.f (k : Nat) (l0 : List Int) (l1 : List Int) : Option (Int) := (nat_used.f k l0).bind fun t190 => ((nat_used.f k l1).bind fun t191 => ((cmp_Compare_int.f t190 t191).bind fun t192 => (if t192 = 0 then (nat_Cmp.l0 k l0 l1 (wrap64 (t190 - 1))) else (some t192))))
theorem nat_Cmp.mono_l : ∀ k, (∀ y0 y1 y2, LeO (nat_Cmp.l0 k y0 y1 y2) (nat_Cmp.l0 (k + 1) y0 y1 y2))
  | 0 => fun _ _ _ r h => by simp [nat_Cmp.l0] at h
  | k + 1 => by
    have ih0 := nat_Cmp.mono_l k
    · intro y0 y1 y2
      unfold nat_Cmp.l0
      repeat' first
       | with_reducible first
        | exact ih0 _ _ _
        | exact nat_used.mono _ _
        | exact LeO.refl _
        | exact LeO.none _
        | refine LeO.ite ?_ ?_
        | refine LeO.bind ?_ (fun _ => ?_)
       | exact LeO.none _ | refine LeO.ite ?_ ?_ | refine LeO.bind ?_ (fun _ => ?_)
theorem nat_Cmp.mono : ∀ a0 a1 k, LeO (nat_Cmp.f k a0 a1) (nat_Cmp.f (k + 1) a0 a1) := by
  intro a0 a1 k
  have ih0 := nat_Cmp.mono_l k
  unfold nat_Cmp.f
  repeat' first
   | with_reducible first
    | exact ih0 _ _ _
    | exact nat_used.mono _ _
    | exact LeO.refl _
    | exact LeO.none _
    | refine LeO.ite ?_ ?_
    | refine LeO.bind ?_ (fun _ => ?_)
   | exact LeO.none _ | refine LeO.ite ?_ ?_ | refine LeO.bind ?_ (fun _ => ?_)
def nat_at.f (l0 : List Int) (a1 : Int) : Option (Int) := if a1 < (l0.length : Int) then (if 0 ≤ a1 then (some (rd l0 a1)) else (none)) else (some 0)
def nat_Sub.l0 : Nat → List Int → List Int → Int → Int → Int → Option (List Int × Bool)
  | 0, _, _, _, _, _ => none
  | k + 1, x1, x6, x7, x16, x17 => if x17 < x16 then (if 0 ≤ x17 then (if x17 < (x6.length : Int) then ((nat_at.f x1 x17).bind fun t202 => ((bits_Sub32.f (rd x6 x17) t202 x7).bind fun bt203 => (nat_Sub.l0 k x1 (x6.set (x17 : Int).toNat bt203.1) bt203.2 x16 (wrap64 (x17 + 1))))) else (none)) else (none)) else ((nat_Trim.f k x6).bind fun t206 => (some (t206, true)))
def nat_Sub.f (k : Nat) (l0 : List Int) (l1 : List Int) : Option (List Int × Bool) := (nat_Cmp.f k l0 l1).bind fun t197 => (if t197 < 0 then (some (([] : List Int), false)) else ((nat_Trim.f k l0).bind fun t198 => (nat_Sub.l0 k l1 t198 0 (t198.length : Int) 0)))
theorem nat_Sub.mono_l : ∀ k, (∀ y0 y1 y2 y3 y4, LeO (nat_Sub.l0 k y0 y1 y2 y3 y4) (nat_Sub.l0 (k + 1) y0 y1 y2 y3 y4))
  | 0 => fun _ _ _ _ _ r h => by simp [nat_Sub.l0] at h
  | k + 1 => by
    have ih0 := nat_Sub.mono_l k
    · intro y0 y1 y2 y3 y4
      unfold nat_Sub.l0
      repeat' first
       | with_reducible first
        | exact ih0 _ _ _ _ _
        | exact nat_Cmp.mono _ _ _
        | exact nat_Trim.mono _ _
        | exact LeO.refl _
        | exact LeO.none _
        | refine LeO.ite ?_ ?_
        | refine LeO.bind ?_ (fun _ => ?_)
       | exact LeO.none _ | refine LeO.ite ?_ ?_ | refine LeO.bind ?_ (fun _ => ?_)
theorem nat_Sub.mono : ∀ a0 a1 k, LeO (nat_Sub.f k a0 a1) (nat_Sub.f (k + 1) a0 a1) := by
  intro a0 a1 k
  have ih0 := nat_Sub.mono_l k
  unfold nat_Sub.f
  repeat' first
   | with_reducible first
    | exact ih0 _ _ _ _ _
    | exact nat_Cmp.mono _ _ _
    | exact nat_Trim.mono _ _
    | exact LeO.refl _
    | exact LeO.none _
    | refine LeO.ite ?_ ?_
    | refine LeO.bind ?_ (fun _ => ?_)
   | exact LeO.none _ | refine LeO.ite ?_ ?_ | refine LeO.bind ?_ (fun _ => ?_)
def nat_Add.l0 : Nat → List Int → List Int → List Int → Int → Int → Int → Option (List Int)
  | 0, _, _, _, _, _, _ => none
  | k + 1, x0, x1, x5, x6, x19, x20 => if x20 < x19 then ((nat_at.f x0 x20).bind fun t350 => ((nat_at.f x1 x20).bind fun t351 => ((bits_Add32.f t350 t351 x6).bind fun bt352 => (if 0 ≤ x20 then (if x20 < (x5.length : Int) then (nat_Add.l0 k x0 x1 (x5.set (x20 : Int).toNat bt352.1) bt352.2 x19 (wrap64 (x20 + 1))) else (none)) else (none))))) else ((nat_Trim.f k x5).bind fun t355 => (some t355))
def nat_Add.f (k : Nat) (l0 : List Int) (l1 : List Int) : Option (List Int) := (nat_used.f k l0).bind fun t344 => ((nat_used.f k l1).bind fun t345 => (if 0 ≤ (wrap64 ((mx t344 t345) + 1)) then (if (wrap64 ((mx t344 t345) + 1) : Int).toNat ≤ 70368744177664 then ((some (List.replicate (wrap64 ((mx t344 t345) + 1) : Int).toNat 0 : List Int)).bind fun y346 => (nat_Add.l0 k l0 l1 (cpy y346 0 l0) 0 (y346.length : Int) 0)) else (none)) else (none)))
theorem nat_Add.mono_l : ∀ k, (∀ y0 y1 y2 y3 y4 y5, LeO (nat_Add.l0 k y0 y1 y2 y3 y4 y5) (nat_Add.l0 (k + 1) y0 y1 y2 y3 y4 y5))
  | 0 => fun _ _ _ _ _ _ r h => by simp [nat_Add.l0] at h
  | k + 1 => by
    have ih0 := nat_Add.mono_l k
    · intro y0 y1 y2 y3 y4 y5
      unfold nat_Add.l0
      repeat' first
       | with_reducible first
        | exact ih0 _ _ _ _ _ _
        | exact nat_Trim.mono _ _
        | exact nat_used.mono _ _
        | exact LeO.refl _
        | exact LeO.none _
        | refine LeO.ite ?_ ?_
        | refine LeO.bind ?_ (fun _ => ?_)
       | exact LeO.none _ | refine LeO.ite ?_ ?_ | refine LeO.bind ?_ (fun _ => ?_)
theorem nat_Add.mono : ∀ a0 a1 k, LeO (nat_Add.f k a0 a1) (nat_Add.f (k + 1) a0 a1) := by
  intro a0 a1 k
  have ih0 := nat_Add.mono_l k
  unfold nat_Add.f
  repeat' first
   | with_reducible first
    | exact ih0 _ _ _ _ _ _
    | exact nat_Trim.mono _ _
    | exact nat_used.mono _ _
    | exact LeO.refl _
    | exact LeO.none _
    | refine LeO.ite ?_ ?_
    | refine LeO.bind ?_ (fun _ => ?_)
   | exact LeO.none _ | refine LeO.ite ?_ ?_ | refine LeO.bind ?_ (fun _ => ?_)
def nat_Bit.f (l0 : List Int) (a1 : Int) : Option (Bool) := if a1 ≥ 0 then (if (wrap64 (Int.tdiv a1 32)) < (l0.length : Int) then (if 0 ≤ (wrap64 (Int.tdiv a1 32)) then (if 0 ≤ (Int.tmod a1 32) then (some ((Go.bits .and .u32 (shr .u32 (rd l0 (wrap64 (Int.tdiv a1 32))) (Int.tmod a1 32)) 1) == 1)) else (none)) else (none)) else (some false)) else (some false)
end Go.Proofs.YtjgmmaeafodpmaaGreatDoor.P
set_option linter.unusedVariables false
set_option linter.unusedSimpArgs false
namespace Go.Proofs.YtjgmmaeafodpmaaGreatDoor.P
open Go.RowKit Go.Proofs.YtjgmmaeafodpmaaGreatDoorW.PrintWords Go.Proofs.YtjgmmaeafodpmaaGreatDoorW.PrintLast Go.Proofs.YtjgmmaeafodpmaaGreatDoorW.PrintMore
mutual
def mul_Of.l0 : Nat → List Int → List Int → List Int → Int → Int → Option (List Int)
  | 0, _, _, _, _, _ => none
  | k + 1, x1, x5, x21, x22, x23 => if x23 < x22 then (if 0 ≤ x23 then (if x23 < (x21.length : Int) then (if 0 ≤ (wrap64 ((x1.length : Int) + 1)) then (if (wrap64 ((x1.length : Int) + 1) : Int).toNat ≤ 70368744177664 then ((some (List.replicate (wrap64 ((x1.length : Int) + 1) : Int).toNat 0 : List Int)).bind fun y127 => (if x23 ≤ (x5.length : Int) then (mul_Of.l1 k x1 x5 x23 (rd x21 x23) (cpy y127 0 (x5.drop (x23 : Int).toNat)) 0 x21 x22 x23 (y127.length : Int) 0) else (none))) else (none)) else (none)) else (none)) else (none)) else ((nat_Trim.f k x5).bind fun t123 => (some t123))
def mul_Of.l1 : Nat → List Int → List Int → Int → Int → List Int → Int → List Int → Int → Int → Int → Int → Option (List Int)
  | 0, _, _, _, _, _, _, _, _, _, _, _ => none
  | k + 1, x1, x5, x6, x7, x8, x9, x21, x22, x23, x38, x39 => if x39 < x38 then (if x39 < (x1.length : Int) then (if 0 ≤ x39 then (if x39 < (x8.length : Int) then (mul_Of.l1 k x1 x5 x6 x7 (x8.set (x39 : Int).toNat ((IntKind.u64.wrap ((IntKind.u64.wrap (x9 + (IntKind.u64.wrap ((IntKind.u64.wrap (x7)) * (IntKind.u64.wrap (rd x1 x39)))))) + (IntKind.u64.wrap (rd x8 x39)))) % 4294967296)) ((IntKind.u64.wrap ((IntKind.u64.wrap (x9 + (IntKind.u64.wrap ((IntKind.u64.wrap (x7)) * (IntKind.u64.wrap (rd x1 x39)))))) + (IntKind.u64.wrap (rd x8 x39)))) / 4294967296) x21 x22 x23 x38 (wrap64 (x39 + 1))) else (none)) else (none)) else (if 0 ≤ x39 then (if x39 < (x8.length : Int) then (mul_Of.l1 k x1 x5 x6 x7 (x8.set (x39 : Int).toNat ((IntKind.u64.wrap (x9 + (IntKind.u64.wrap (rd x8 x39)))) % 4294967296)) ((IntKind.u64.wrap (x9 + (IntKind.u64.wrap (rd x8 x39)))) / 4294967296) x21 x22 x23 x38 (wrap64 (x39 + 1))) else (none)) else (none))) else (if 0 ≤ x6 then (if x6 ≤ (x5.length : Int) then (mul_Of.l0 k x1 (cpy x5 (x6 : Int).toNat x8) x21 x22 (wrap64 (x23 + 1))) else (none)) else (none))
end
def mul_Of.f (k : Nat) (l0 : List Int) (l1 : List Int) : Option (List Int) := (nat_Trim.f k l0).bind fun t114 => ((nat_Trim.f k l1).bind fun t117 => (if 0 ≤ (wrap64 ((t114.length : Int) + (t117.length : Int))) then (if (wrap64 ((t114.length : Int) + (t117.length : Int)) : Int).toNat ≤ 70368744177664 then (mul_Of.l0 k t117 (List.replicate (wrap64 ((t114.length : Int) + (t117.length : Int)) : Int).toNat 0) t114 (t114.length : Int) 0) else (none)) else (none)))
theorem mul_Of.mono_l : ∀ k, (∀ y0 y1 y2 y3 y4, LeO (mul_Of.l0 k y0 y1 y2 y3 y4) (mul_Of.l0 (k + 1) y0 y1 y2 y3 y4)) ∧ (∀ y0 y1 y2 y3 y4 y5 y6 y7 y8 y9 y10, LeO (mul_Of.l1 k y0 y1 y2 y3 y4 y5 y6 y7 y8 y9 y10) (mul_Of.l1 (k + 1) y0 y1 y2 y3 y4 y5 y6 y7 y8 y9 y10))
  | 0 => ⟨fun _ _ _ _ _ r h => by simp [mul_Of.l0] at h, fun _ _ _ _ _ _ _ _ _ _ _ r h => by simp [mul_Of.l1] at h⟩
  | k + 1 => by
    obtain ⟨ih0, ih1⟩ := mul_Of.mono_l k
    refine ⟨?_, ?_⟩
    · intro y0 y1 y2 y3 y4
      unfold mul_Of.l0
      repeat' first
       | with_reducible first
        | exact ih0 _ _ _ _ _
        | exact ih1 _ _ _ _ _ _ _ _ _ _ _
        | exact nat_Trim.mono _ _
        | exact LeO.refl _
        | exact LeO.none _
        | refine LeO.ite ?_ ?_
        | refine LeO.bind ?_ (fun _ => ?_)
       | exact LeO.none _ | refine LeO.ite ?_ ?_ | refine LeO.bind ?_ (fun _ => ?_)
    · intro y0 y1 y2 y3 y4 y5 y6 y7 y8 y9 y10
      unfold mul_Of.l1
      repeat' first
       | with_reducible first
        | exact ih0 _ _ _ _ _
        | exact ih1 _ _ _ _ _ _ _ _ _ _ _
        | exact nat_Trim.mono _ _
        | exact LeO.refl _
        | exact LeO.none _
        | refine LeO.ite ?_ ?_
        | refine LeO.bind ?_ (fun _ => ?_)
       | exact LeO.none _ | refine LeO.ite ?_ ?_ | refine LeO.bind ?_ (fun _ => ?_)
theorem mul_Of.mono : ∀ a0 a1 k, LeO (mul_Of.f k a0 a1) (mul_Of.f (k + 1) a0 a1) := by
  intro a0 a1 k
  obtain ⟨ih0, ih1⟩ := mul_Of.mono_l k
  unfold mul_Of.f
  repeat' first
   | with_reducible first
    | exact ih0 _ _ _ _ _
    | exact ih1 _ _ _ _ _ _ _ _ _ _ _
    | exact nat_Trim.mono _ _
    | exact LeO.refl _
    | exact LeO.none _
    | refine LeO.ite ?_ ?_
    | refine LeO.bind ?_ (fun _ => ?_)
   | exact LeO.none _ | refine LeO.ite ?_ ?_ | refine LeO.bind ?_ (fun _ => ?_)
def mul_Small.f (k : Nat) (l0 : List Int) (a1 : Int) : Option (List Int) := (mul_Of.f k l0 (([a1] : List Int))).bind fun t148 => (some t148)
theorem mul_Small.mono : ∀ a0 a1 k, LeO (mul_Small.f k a0 a1) (mul_Small.f (k + 1) a0 a1) := by
  intro a0 a1 k
  unfold mul_Small.f
  repeat' first
   | with_reducible first
    | exact mul_Of.mono _ _ _
    | exact LeO.refl _
    | exact LeO.none _
    | refine LeO.ite ?_ ?_
    | refine LeO.bind ?_ (fun _ => ?_)
   | exact LeO.none _ | refine LeO.ite ?_ ?_ | refine LeO.bind ?_ (fun _ => ?_)
def mul_up.f (k : Nat) (l0 : List Int) (a1 : Int) : Option (List Int) := if 0 ≤ (wrap64 ((wrap64 ((wrap64 (Int.tdiv a1 32)) + (l0.length : Int))) + 1)) then (if (wrap64 ((wrap64 ((wrap64 (Int.tdiv a1 32)) + (l0.length : Int))) + 1) : Int).toNat ≤ 70368744177664 then ((some (List.replicate (wrap64 ((wrap64 ((wrap64 (Int.tdiv a1 32)) + (l0.length : Int))) + 1) : Int).toNat 0 : List Int)).bind fun y151 => (if 0 ≤ (wrap64 (Int.tdiv a1 32)) then (if (wrap64 (Int.tdiv a1 32)) ≤ (y151.length : Int) then (if 0 ≤ (Int.tmod a1 32) then ((mul_Small.f k (cpy y151 ((wrap64 (Int.tdiv a1 32)) : Int).toNat l0) (shl .u32 1 (Int.tmod a1 32))).bind fun t159 => (some t159)) else (none)) else (none)) else (none))) else (none)) else (none)
theorem mul_up.mono : ∀ a0 a1 k, LeO (mul_up.f k a0 a1) (mul_up.f (k + 1) a0 a1) := by
  intro a0 a1 k
  unfold mul_up.f
  repeat' first
   | with_reducible first
    | exact mul_Small.mono _ _ _
    | exact LeO.refl _
    | exact LeO.none _
    | refine LeO.ite ?_ ?_
    | refine LeO.bind ?_ (fun _ => ?_)
   | exact LeO.none _ | refine LeO.ite ?_ ?_ | refine LeO.bind ?_ (fun _ => ?_)
def mul_down.l0 : Nat → Int → List Int → Int → Int → Option (List Int)
  | 0, _, _, _, _ => none
  | k + 1, x1, x5, x20, x21 => if x21 < x20 then (if (wrap64 (x21 + 1)) < (x5.length : Int) then (if 0 ≤ (wrap64 (x21 + 1)) then (if 0 ≤ x21 then (if x21 < (x5.length : Int) then (if 0 ≤ (Int.tmod x1 32) then (mul_down.l0 k x1 (x5.set (x21 : Int).toNat ((shr .u64 (Go.bits .or .u64 (IntKind.u64.wrap ((IntKind.u64.wrap (rd x5 (wrap64 (x21 + 1)))) * 4294967296)) (IntKind.u64.wrap (rd x5 x21))) (Int.tmod x1 32)) % 4294967296)) x20 (wrap64 (x21 + 1))) else (none)) else (none)) else (none)) else (none)) else (if 0 ≤ x21 then (if x21 < (x5.length : Int) then (if 0 ≤ (Int.tmod x1 32) then (mul_down.l0 k x1 (x5.set (x21 : Int).toNat ((shr .u64 (Go.bits .or .u64 0 (IntKind.u64.wrap (rd x5 x21))) (Int.tmod x1 32)) % 4294967296)) x20 (wrap64 (x21 + 1))) else (none)) else (none)) else (none))) else ((nat_Trim.f k x5).bind fun t174 => (some t174))
def mul_down.f (k : Nat) (l0 : List Int) (a1 : Int) : Option (List Int) := if (wrap64 (Int.tdiv a1 32)) ≥ (l0.length : Int) then (some (([] : List Int))) else (if 0 ≤ (wrap64 (Int.tdiv a1 32)) then (if (wrap64 (Int.tdiv a1 32)) ≤ (l0.length : Int) then ((nat_Trim.f k (l0.drop ((wrap64 (Int.tdiv a1 32)) : Int).toNat)).bind fun t166 => (mul_down.l0 k a1 t166 (t166.length : Int) 0)) else (none)) else (none))
theorem mul_down.mono_l : ∀ k, (∀ y0 y1 y2 y3, LeO (mul_down.l0 k y0 y1 y2 y3) (mul_down.l0 (k + 1) y0 y1 y2 y3))
  | 0 => fun _ _ _ _ r h => by simp [mul_down.l0] at h
  | k + 1 => by
    have ih0 := mul_down.mono_l k
    · intro y0 y1 y2 y3
      unfold mul_down.l0
      repeat' first
       | with_reducible first
        | exact ih0 _ _ _ _
        | exact nat_Trim.mono _ _
        | exact LeO.refl _
        | exact LeO.none _
        | refine LeO.ite ?_ ?_
        | refine LeO.bind ?_ (fun _ => ?_)
       | exact LeO.none _ | refine LeO.ite ?_ ?_ | refine LeO.bind ?_ (fun _ => ?_)
theorem mul_down.mono : ∀ a0 a1 k, LeO (mul_down.f k a0 a1) (mul_down.f (k + 1) a0 a1) := by
  intro a0 a1 k
  have ih0 := mul_down.mono_l k
  unfold mul_down.f
  repeat' first
   | with_reducible first
    | exact ih0 _ _ _ _
    | exact nat_Trim.mono _ _
    | exact LeO.refl _
    | exact LeO.none _
    | refine LeO.ite ?_ ?_
    | refine LeO.bind ?_ (fun _ => ?_)
   | exact LeO.none _ | refine LeO.ite ?_ ?_ | refine LeO.bind ?_ (fun _ => ?_)
def mul_Shift.f (k : Nat) (l0 : List Int) (a1 : Int) : Option (List Int) := if a1 ≥ 0 then ((mul_up.f k l0 (mn a1 8192)).bind fun t177 => (some t177)) else (if a1 < (-8192) then (some (([] : List Int))) else ((mul_down.f k l0 (wrap64 (-a1))).bind fun t183 => (some t183)))
theorem mul_Shift.mono : ∀ a0 a1 k, LeO (mul_Shift.f k a0 a1) (mul_Shift.f (k + 1) a0 a1) := by
  intro a0 a1 k
  unfold mul_Shift.f
  repeat' first
   | with_reducible first
    | exact mul_down.mono _ _ _
    | exact mul_up.mono _ _ _
    | exact LeO.refl _
    | exact LeO.none _
    | refine LeO.ite ?_ ?_
    | refine LeO.bind ?_ (fun _ => ?_)
   | exact LeO.none _ | refine LeO.ite ?_ ?_ | refine LeO.bind ?_ (fun _ => ?_)
end Go.Proofs.YtjgmmaeafodpmaaGreatDoor.P
set_option linter.unusedVariables false
set_option linter.unusedSimpArgs false
namespace Go.Proofs.YtjgmmaeafodpmaaGreatDoor.P
open Go.RowKit Go.Proofs.YtjgmmaeafodpmaaGreatDoorW.PrintWords Go.Proofs.YtjgmmaeafodpmaaGreatDoorW.PrintLast Go.Proofs.YtjgmmaeafodpmaaGreatDoorW.PrintMore
def quo_less.l0 : Nat → List Int → List Int → Int → Option (List Int × Int)
  | 0, _, _, _ => none
  | k + 1, x0, x1, x2 => (mul_Small.f k x1 x2).bind fun t209 => ((nat_Sub.f k x0 t209).bind fun bt212 => (if bt212.2 = true then (some (bt212.1, x2)) else (quo_less.l0 k x0 x1 ((x2 - 1) % 4294967296))))
def quo_less.f (k : Nat) (l0 : List Int) (l1 : List Int) (a2 : Int) : Option (List Int × Int) := quo_less.l0 k l0 l1 a2
theorem quo_less.mono_l : ∀ k, (∀ y0 y1 y2, LeO (quo_less.l0 k y0 y1 y2) (quo_less.l0 (k + 1) y0 y1 y2))
  | 0 => fun _ _ _ r h => by simp [quo_less.l0] at h
  | k + 1 => by
    have ih0 := quo_less.mono_l k
    · intro y0 y1 y2
      unfold quo_less.l0
      repeat' first
       | with_reducible first
        | exact ih0 _ _ _
        | exact mul_Small.mono _ _ _
        | exact nat_Sub.mono _ _ _
        | exact LeO.refl _
        | exact LeO.none _
        | refine LeO.ite ?_ ?_
        | refine LeO.bind ?_ (fun _ => ?_)
       | exact LeO.none _ | refine LeO.ite ?_ ?_ | refine LeO.bind ?_ (fun _ => ?_)
theorem quo_less.mono : ∀ a0 a1 a2 k, LeO (quo_less.f k a0 a1 a2) (quo_less.f (k + 1) a0 a1 a2) := by
  intro a0 a1 a2 k
  have ih0 := quo_less.mono_l k
  unfold quo_less.f
  repeat' first
   | with_reducible first
    | exact ih0 _ _ _
    | exact mul_Small.mono _ _ _
    | exact nat_Sub.mono _ _ _
    | exact LeO.refl _
    | exact LeO.none _
    | refine LeO.ite ?_ ?_
    | refine LeO.bind ?_ (fun _ => ?_)
   | exact LeO.none _ | refine LeO.ite ?_ ?_ | refine LeO.bind ?_ (fun _ => ?_)
def quo_guess.f (l0 : List Int) (l1 : List Int) : Option (Int) := if 0 ≤ (l1.length : Int) then (if (l1.length : Int) < (l0.length : Int) then (if 0 ≤ (wrap64 ((l1.length : Int) - 1)) then (if (wrap64 ((l1.length : Int) - 1)) < (l0.length : Int) then (if (wrap64 ((l1.length : Int) - 1)) < (l1.length : Int) then (if (IntKind.u64.wrap (rd l1 (wrap64 ((l1.length : Int) - 1)))) = 0 then (none) else (some ((mn (IntKind.u64.wrap (Int.tdiv (Go.bits .or .u64 (IntKind.u64.wrap ((IntKind.u64.wrap (rd l0 (l1.length : Int))) * 4294967296)) (IntKind.u64.wrap (rd l0 (wrap64 ((l1.length : Int) - 1))))) (IntKind.u64.wrap (rd l1 (wrap64 ((l1.length : Int) - 1)))))) 4294967295) % 4294967296))) else (none)) else (none)) else (none)) else (none)) else (none)
def quo_Rem.l0 : Nat → List Int → List Int → List Int → Int → List Int → Int → Option (List Int × List Int × Bool)
  | 0, _, _, _, _, _, _ => none
  | k + 1, x0, x1, x4, x7, x8, x9 => if x9 ≥ 0 then (if 0 ≤ (wrap64 ((x1.length : Int) + 1)) then (if (wrap64 ((x1.length : Int) + 1) : Int).toNat ≤ 70368744177664 then ((some (List.replicate (wrap64 ((x1.length : Int) + 1) : Int).toNat 0 : List Int)).bind fun y236 => (if 1 ≤ (y236.length : Int) then (if 0 ≤ x9 then (if x9 < (x0.length : Int) then (if 0 < (y236.length : Int) then ((some ((cpy y236 1 x8).set (0 : Int).toNat (rd x0 x9) : List Int)).bind fun y245 => ((quo_guess.f y245 x1).bind fun t246 => ((quo_less.f k y245 x1 t246).bind fun bt247 => (if x9 < (x4.length : Int) then (quo_Rem.l0 k x0 x1 (x4.set (x9 : Int).toNat bt247.2) x7 bt247.1 (wrap64 (x9 - 1))) else (none))))) else (none)) else (none)) else (none)) else (none))) else (none)) else (none)) else ((nat_Trim.f k x4).bind fun t252 => ((mul_Shift.f k x8 (wrap64 (-x7))).bind fun t255 => (some (t252, t255, true))))
def quo_Rem.f (k : Nat) (l0 : List Int) (l1 : List Int) : Option (List Int × List Int × Bool) := (nat_Trim.f k l1).bind fun t219 => (if (t219.length : Int) = 0 then (some (([] : List Int), ([] : List Int), false)) else (if 0 ≤ (wrap64 ((t219.length : Int) - 1)) then (if (wrap64 ((t219.length : Int) - 1)) < (t219.length : Int) then ((bits_LeadingZeros32.f (rd t219 (wrap64 ((t219.length : Int) - 1)))).bind fun t223 => ((mul_Shift.f k l0 t223).bind fun t224 => ((mul_Shift.f k t219 t223).bind fun t227 => (if 0 ≤ (t224.length : Int) then (if ((t224.length : Int) : Int).toNat ≤ 70368744177664 then (quo_Rem.l0 k t224 t227 (List.replicate ((t224.length : Int) : Int).toNat 0) t223 (([] : List Int)) (wrap64 ((t224.length : Int) - 1))) else (none)) else (none))))) else (none)) else (none)))
theorem quo_Rem.mono_l : ∀ k, (∀ y0 y1 y2 y3 y4 y5, LeO (quo_Rem.l0 k y0 y1 y2 y3 y4 y5) (quo_Rem.l0 (k + 1) y0 y1 y2 y3 y4 y5))
  | 0 => fun _ _ _ _ _ _ r h => by simp [quo_Rem.l0] at h
  | k + 1 => by
    have ih0 := quo_Rem.mono_l k
    · intro y0 y1 y2 y3 y4 y5
      unfold quo_Rem.l0
      repeat' first
       | with_reducible first
        | exact ih0 _ _ _ _ _ _
        | exact mul_Shift.mono _ _ _
        | exact nat_Trim.mono _ _
        | exact quo_less.mono _ _ _ _
        | exact LeO.refl _
        | exact LeO.none _
        | refine LeO.ite ?_ ?_
        | refine LeO.bind ?_ (fun _ => ?_)
       | exact LeO.none _ | refine LeO.ite ?_ ?_ | refine LeO.bind ?_ (fun _ => ?_)
theorem quo_Rem.mono : ∀ a0 a1 k, LeO (quo_Rem.f k a0 a1) (quo_Rem.f (k + 1) a0 a1) := by
  intro a0 a1 k
  have ih0 := quo_Rem.mono_l k
  unfold quo_Rem.f
  repeat' first
   | with_reducible first
    | exact ih0 _ _ _ _ _ _
    | exact mul_Shift.mono _ _ _
    | exact nat_Trim.mono _ _
    | exact quo_less.mono _ _ _ _
    | exact LeO.refl _
    | exact LeO.none _
    | refine LeO.ite ?_ ?_
    | refine LeO.bind ?_ (fun _ => ?_)
   | exact LeO.none _ | refine LeO.ite ?_ ?_ | refine LeO.bind ?_ (fun _ => ?_)
def quo_Gcd.l0 : Nat → List Int → List Int → Option (List Int)
  | 0, _, _ => none
  | k + 1, x0, x1 => if (x1.length : Int) > 0 then ((quo_Rem.f k x0 x1).bind fun bt264 => (quo_Gcd.l0 k x1 bt264.2.1)) else (some x0)
def quo_Gcd.f (k : Nat) (l0 : List Int) (l1 : List Int) : Option (List Int) := (nat_Trim.f k l0).bind fun t258 => ((nat_Trim.f k l1).bind fun t261 => (quo_Gcd.l0 k t258 t261))
theorem quo_Gcd.mono_l : ∀ k, (∀ y0 y1, LeO (quo_Gcd.l0 k y0 y1) (quo_Gcd.l0 (k + 1) y0 y1))
  | 0 => fun _ _ r h => by simp [quo_Gcd.l0] at h
  | k + 1 => by
    have ih0 := quo_Gcd.mono_l k
    · intro y0 y1
      unfold quo_Gcd.l0
      repeat' first
       | with_reducible first
        | exact ih0 _ _
        | exact nat_Trim.mono _ _
        | exact quo_Rem.mono _ _ _
        | exact LeO.refl _
        | exact LeO.none _
        | refine LeO.ite ?_ ?_
        | refine LeO.bind ?_ (fun _ => ?_)
       | exact LeO.none _ | refine LeO.ite ?_ ?_ | refine LeO.bind ?_ (fun _ => ?_)
theorem quo_Gcd.mono : ∀ a0 a1 k, LeO (quo_Gcd.f k a0 a1) (quo_Gcd.f (k + 1) a0 a1) := by
  intro a0 a1 k
  have ih0 := quo_Gcd.mono_l k
  unfold quo_Gcd.f
  repeat' first
   | with_reducible first
    | exact ih0 _ _
    | exact nat_Trim.mono _ _
    | exact quo_Rem.mono _ _ _
    | exact LeO.refl _
    | exact LeO.none _
    | refine LeO.ite ?_ ?_
    | refine LeO.bind ?_ (fun _ => ?_)
   | exact LeO.none _ | refine LeO.ite ?_ ?_ | refine LeO.bind ?_ (fun _ => ?_)
def quo_Small.l0 : Nat → Int → Int → List Int → Int → Option (List Int × Int × Bool)
  | 0, _, _, _, _ => none
  | k + 1, x1, x5, x7, x8 => if x8 ≥ 0 then (if 0 ≤ x8 then (if x8 < (x7.length : Int) then ((bits_Div32.f x5 (rd x7 x8) x1).bind fun bt541 => (quo_Small.l0 k x1 bt541.2 (x7.set (x8 : Int).toNat bt541.1) (wrap64 (x8 - 1)))) else (none)) else (none)) else ((nat_Trim.f k x7).bind fun t544 => (some (t544, x5, true)))
def quo_Small.f (k : Nat) (l0 : List Int) (a1 : Int) : Option (List Int × Int × Bool) := if a1 = 0 then (some (([] : List Int), 0, false)) else ((nat_Trim.f k l0).bind fun t537 => (quo_Small.l0 k a1 0 t537 (wrap64 ((t537.length : Int) - 1))))
theorem quo_Small.mono_l : ∀ k, (∀ y0 y1 y2 y3, LeO (quo_Small.l0 k y0 y1 y2 y3) (quo_Small.l0 (k + 1) y0 y1 y2 y3))
  | 0 => fun _ _ _ _ r h => by simp [quo_Small.l0] at h
  | k + 1 => by
    have ih0 := quo_Small.mono_l k
    · intro y0 y1 y2 y3
      unfold quo_Small.l0
      repeat' first
       | with_reducible first
        | exact ih0 _ _ _ _
        | exact nat_Trim.mono _ _
        | exact LeO.refl _
        | exact LeO.none _
        | refine LeO.ite ?_ ?_
        | refine LeO.bind ?_ (fun _ => ?_)
       | exact LeO.none _ | refine LeO.ite ?_ ?_ | refine LeO.bind ?_ (fun _ => ?_)
theorem quo_Small.mono : ∀ a0 a1 k, LeO (quo_Small.f k a0 a1) (quo_Small.f (k + 1) a0 a1) := by
  intro a0 a1 k
  have ih0 := quo_Small.mono_l k
  unfold quo_Small.f
  repeat' first
   | with_reducible first
    | exact ih0 _ _ _ _
    | exact nat_Trim.mono _ _
    | exact LeO.refl _
    | exact LeO.none _
    | refine LeO.ite ?_ ?_
    | refine LeO.bind ?_ (fun _ => ?_)
   | exact LeO.none _ | refine LeO.ite ?_ ?_ | refine LeO.bind ?_ (fun _ => ?_)
end Go.Proofs.YtjgmmaeafodpmaaGreatDoor.P
set_option linter.unusedVariables false
set_option linter.unusedSimpArgs false
namespace Go.Proofs.YtjgmmaeafodpmaaGreatDoor.P
open Go.RowKit Go.Proofs.YtjgmmaeafodpmaaGreatDoorW.PrintWords Go.Proofs.YtjgmmaeafodpmaaGreatDoorW.PrintLast Go.Proofs.YtjgmmaeafodpmaaGreatDoorW.PrintMore
mutual
def digits_Ten.j0 : Nat → Int → Bool → Option (List Int × Bool)
  | 0, _, _ => none
  | k + 1, x0, x10 => if x10 = true then (some (([] : List Int), false)) else ((nat_Of.f k 1).bind fun t311 => (digits_Ten.l0 k x0 t311))
def digits_Ten.l0 : Nat → Int → List Int → Option (List Int × Bool)
  | 0, _, _ => none
  | k + 1, x0, x4 => if x0 > 0 then (if 0 ≤ (mn x0 9) then (if (mn x0 9) < (tab0_.length : Int) then ((mul_Small.f k x4 (rd tab0_ (mn x0 9))).bind fun t315 => (digits_Ten.l0 k (wrap64 (x0 - 9)) t315)) else (none)) else (none)) else (some (x4, true))
end
def digits_Ten.f (k : Nat) (a0 : Int) : Option (List Int × Bool) := if a0 < 0 then (digits_Ten.j0 k a0 true) else (digits_Ten.j0 k a0 (decide (a0 > 2000)))
theorem digits_Ten.mono_l : ∀ k, (∀ y0 y1, LeO (digits_Ten.j0 k y0 y1) (digits_Ten.j0 (k + 1) y0 y1)) ∧ (∀ y0 y1, LeO (digits_Ten.l0 k y0 y1) (digits_Ten.l0 (k + 1) y0 y1))
  | 0 => ⟨fun _ _ r h => by simp [digits_Ten.j0] at h, fun _ _ r h => by simp [digits_Ten.l0] at h⟩
  | k + 1 => by
    obtain ⟨ih0, ih1⟩ := digits_Ten.mono_l k
    refine ⟨?_, ?_⟩
    · intro y0 y1
      unfold digits_Ten.j0
      repeat' first
       | with_reducible first
        | exact ih0 _ _
        | exact ih1 _ _
        | exact mul_Small.mono _ _ _
        | exact nat_Of.mono _ _
        | exact LeO.refl _
        | exact LeO.none _
        | refine LeO.ite ?_ ?_
        | refine LeO.bind ?_ (fun _ => ?_)
       | exact LeO.none _ | refine LeO.ite ?_ ?_ | refine LeO.bind ?_ (fun _ => ?_)
    · intro y0 y1
      unfold digits_Ten.l0
      repeat' first
       | with_reducible first
        | exact ih0 _ _
        | exact ih1 _ _
        | exact mul_Small.mono _ _ _
        | exact nat_Of.mono _ _
        | exact LeO.refl _
        | exact LeO.none _
        | refine LeO.ite ?_ ?_
        | refine LeO.bind ?_ (fun _ => ?_)
       | exact LeO.none _ | refine LeO.ite ?_ ?_ | refine LeO.bind ?_ (fun _ => ?_)
theorem digits_Ten.mono : ∀ a0 k, LeO (digits_Ten.f k a0) (digits_Ten.f (k + 1) a0) := by
  intro a0 k
  obtain ⟨ih0, ih1⟩ := digits_Ten.mono_l k
  unfold digits_Ten.f
  repeat' first
   | with_reducible first
    | exact ih0 _ _
    | exact ih1 _ _
    | exact mul_Small.mono _ _ _
    | exact nat_Of.mono _ _
    | exact LeO.refl _
    | exact LeO.none _
    | refine LeO.ite ?_ ?_
    | refine LeO.bind ?_ (fun _ => ?_)
   | exact LeO.none _ | refine LeO.ite ?_ ?_ | refine LeO.bind ?_ (fun _ => ?_)
mutual
def digits_Text.l0 : Nat → List Int → List Int → Option (ByteArray)
  | 0, _, _ => none
  | k + 1, x0, x3 => if (x0.length : Int) > 0 then (if 9 < (tab0_.length : Int) then ((quo_Small.f k x0 (rd tab0_ 9)).bind fun bt555 => (digits_Text.l1 k x3 bt555.1 bt555.2.1 0)) else (none)) else (digits_Text.l2 k x3)
def digits_Text.l1 : Nat → List Int → List Int → Int → Int → Option (ByteArray)
  | 0, _, _, _, _ => none
  | k + 1, x3, x4, x5, x20 => if x20 < 9 then (if x3.length < 140737488355328 then (digits_Text.l1 k (x3 ++ [(48 + (Int.tmod x5 10)) % 256]) x4 ((Int.tdiv x5 10) % 4294967296) (wrap64 (x20 + 1))) else (none)) else (digits_Text.l0 k x4 x3)
def digits_Text.l2 : Nat → List Int → Option (ByteArray)
  | 0, _ => none
  | k + 1, x3 => if (x3.length : Int) > 0 then (if 0 ≤ (wrap64 ((x3.length : Int) - 1)) then (if (wrap64 ((x3.length : Int) - 1)) < (x3.length : Int) then (if (rd x3 (wrap64 ((x3.length : Int) - 1))) = 48 then (if (wrap64 ((x3.length : Int) - 1)) ≤ (x3.length : Int) then (digits_Text.l2 k (x3.take ((wrap64 ((x3.length : Int) - 1)) : Int).toNat)) else (none)) else (if (x3.length : Int) = 0 then (some (⟨#[48]⟩ : ByteArray)) else ((slices_Reverse_byte_byte.f k x3).bind fun t567 => (some (strOfNums t567))))) else (none)) else (none)) else (if (x3.length : Int) = 0 then (some (⟨#[48]⟩ : ByteArray)) else ((slices_Reverse_byte_byte.f k x3).bind fun t568 => (some (strOfNums t568))))
end
def digits_Text.f (k : Nat) (l0 : List Int) : Option (ByteArray) := (nat_Trim.f k l0).bind fun t551 => (digits_Text.l0 k t551 ([] : List Int))
theorem digits_Text.mono_l : ∀ k, (∀ y0 y1, LeO (digits_Text.l0 k y0 y1) (digits_Text.l0 (k + 1) y0 y1)) ∧ (∀ y0 y1 y2 y3, LeO (digits_Text.l1 k y0 y1 y2 y3) (digits_Text.l1 (k + 1) y0 y1 y2 y3)) ∧ (∀ y0, LeO (digits_Text.l2 k y0) (digits_Text.l2 (k + 1) y0))
  | 0 => ⟨fun _ _ r h => by simp [digits_Text.l0] at h, fun _ _ _ _ r h => by simp [digits_Text.l1] at h, fun _ r h => by simp [digits_Text.l2] at h⟩
  | k + 1 => by
    obtain ⟨ih0, ih1, ih2⟩ := digits_Text.mono_l k
    refine ⟨?_, ?_, ?_⟩
    · intro y0 y1
      unfold digits_Text.l0
      repeat' first
       | with_reducible first
        | exact ih0 _ _
        | exact ih1 _ _ _ _
        | exact ih2 _
        | exact nat_Trim.mono _ _
        | exact quo_Small.mono _ _ _
        | exact slices_Reverse_byte_byte.mono _ _
        | exact LeO.refl _
        | exact LeO.none _
        | refine LeO.ite ?_ ?_
        | refine LeO.bind ?_ (fun _ => ?_)
       | exact LeO.none _ | refine LeO.ite ?_ ?_ | refine LeO.bind ?_ (fun _ => ?_)
    · intro y0 y1 y2 y3
      unfold digits_Text.l1
      repeat' first
       | with_reducible first
        | exact ih0 _ _
        | exact ih1 _ _ _ _
        | exact ih2 _
        | exact nat_Trim.mono _ _
        | exact quo_Small.mono _ _ _
        | exact slices_Reverse_byte_byte.mono _ _
        | exact LeO.refl _
        | exact LeO.none _
        | refine LeO.ite ?_ ?_
        | refine LeO.bind ?_ (fun _ => ?_)
       | exact LeO.none _ | refine LeO.ite ?_ ?_ | refine LeO.bind ?_ (fun _ => ?_)
    · intro y0
      unfold digits_Text.l2
      repeat' first
       | with_reducible first
        | exact ih0 _ _
        | exact ih1 _ _ _ _
        | exact ih2 _
        | exact nat_Trim.mono _ _
        | exact quo_Small.mono _ _ _
        | exact slices_Reverse_byte_byte.mono _ _
        | exact LeO.refl _
        | exact LeO.none _
        | refine LeO.ite ?_ ?_
        | refine LeO.bind ?_ (fun _ => ?_)
       | exact LeO.none _ | refine LeO.ite ?_ ?_ | refine LeO.bind ?_ (fun _ => ?_)
theorem digits_Text.mono : ∀ a0 k, LeO (digits_Text.f k a0) (digits_Text.f (k + 1) a0) := by
  intro a0 k
  obtain ⟨ih0, ih1, ih2⟩ := digits_Text.mono_l k
  unfold digits_Text.f
  repeat' first
   | with_reducible first
    | exact ih0 _ _
    | exact ih1 _ _ _ _
    | exact ih2 _
    | exact nat_Trim.mono _ _
    | exact quo_Small.mono _ _ _
    | exact slices_Reverse_byte_byte.mono _ _
    | exact LeO.refl _
    | exact LeO.none _
    | refine LeO.ite ?_ ?_
    | refine LeO.bind ?_ (fun _ => ?_)
   | exact LeO.none _ | refine LeO.ite ?_ ?_ | refine LeO.bind ?_ (fun _ => ?_)
def digits_some.l0 : Nat → ByteArray → Int → Int → Int → Option (Int × Bool)
  | 0, _, _, _, _ => none
  | k + 1, x0, x4, x7, x8 => if x8 < x7 then (if 0 ≤ x8 then (if x8 < (x0.size : Int) then (if (bt x0 x8) < 48 then (some (0, false)) else (if (bt x0 x8) > 57 then (some (0, false)) else (digits_some.l0 k x0 ((((10 * x4) % 4294967296) + (((bt x0 x8) - 48) % 256)) % 4294967296) x7 (wrap64 (x8 + 1))))) else (none)) else (none)) else (some (x4, true))
def digits_some.f (k : Nat) (a0 : ByteArray) : Option (Int × Bool) := digits_some.l0 k a0 0 (a0.size : Int) 0
theorem digits_some.mono_l : ∀ k, (∀ y0 y1 y2 y3, LeO (digits_some.l0 k y0 y1 y2 y3) (digits_some.l0 (k + 1) y0 y1 y2 y3))
  | 0 => fun _ _ _ _ r h => by simp [digits_some.l0] at h
  | k + 1 => by
    have ih0 := digits_some.mono_l k
    · intro y0 y1 y2 y3
      unfold digits_some.l0
      repeat' first
       | with_reducible first
        | exact ih0 _ _ _ _
        | exact LeO.refl _
        | exact LeO.none _
        | refine LeO.ite ?_ ?_
        | refine LeO.bind ?_ (fun _ => ?_)
       | exact LeO.none _ | refine LeO.ite ?_ ?_ | refine LeO.bind ?_ (fun _ => ?_)
theorem digits_some.mono : ∀ a0 k, LeO (digits_some.f k a0) (digits_some.f (k + 1) a0) := by
  intro a0 k
  have ih0 := digits_some.mono_l k
  unfold digits_some.f
  repeat' first
   | with_reducible first
    | exact ih0 _ _ _ _
    | exact LeO.refl _
    | exact LeO.none _
    | refine LeO.ite ?_ ?_
    | refine LeO.bind ?_ (fun _ => ?_)
   | exact LeO.none _ | refine LeO.ite ?_ ?_ | refine LeO.bind ?_ (fun _ => ?_)
mutual
def digits_Parse.j0 : Nat → ByteArray → Bool → Option (List Int × Bool)
  | 0, _, _ => none
  | k + 1, x0, x14 => if x14 = true then (some (([] : List Int), false)) else (digits_Parse.l0 k x0 ([] : List Int))
def digits_Parse.l0 : Nat → ByteArray → List Int → Option (List Int × Bool)
  | 0, _, _ => none
  | k + 1, x0, x4 => if x0.toList = ([] : List UInt8) then (some (x4, true)) else (if 0 ≤ (mn 9 (x0.size : Int)) then (if (mn 9 (x0.size : Int)) ≤ (x0.size : Int) then ((digits_some.f k (x0.extract 0 ((mn 9 (x0.size : Int)) : Int).toNat)).bind fun bt1484 => (if bt1484.2 = true then (if (mn 9 (x0.size : Int)) < (tab0_.length : Int) then ((mul_Small.f k x4 (rd tab0_ (mn 9 (x0.size : Int)))).bind fun t1487 => ((nat_Of.f k (IntKind.u64.wrap (bt1484.1))).bind fun t1490 => ((nat_Add.f k t1487 t1490).bind fun t1493 => (digits_Parse.l0 k (x0.extract ((mn 9 (x0.size : Int)) : Int).toNat x0.size) t1493)))) else (none)) else (some (([] : List Int), false)))) else (none)) else (none))
end
def digits_Parse.f (k : Nat) (a0 : ByteArray) : Option (List Int × Bool) := if a0.toList = ([] : List UInt8) then (digits_Parse.j0 k a0 true) else (digits_Parse.j0 k a0 (decide ((a0.size : Int) > 2000)))
theorem digits_Parse.mono_l : ∀ k, (∀ y0 y1, LeO (digits_Parse.j0 k y0 y1) (digits_Parse.j0 (k + 1) y0 y1)) ∧ (∀ y0 y1, LeO (digits_Parse.l0 k y0 y1) (digits_Parse.l0 (k + 1) y0 y1))
  | 0 => ⟨fun _ _ r h => by simp [digits_Parse.j0] at h, fun _ _ r h => by simp [digits_Parse.l0] at h⟩
  | k + 1 => by
    obtain ⟨ih0, ih1⟩ := digits_Parse.mono_l k
    refine ⟨?_, ?_⟩
    · intro y0 y1
      unfold digits_Parse.j0
      repeat' first
       | with_reducible first
        | exact ih0 _ _
        | exact ih1 _ _
        | exact digits_some.mono _ _
        | exact mul_Small.mono _ _ _
        | exact nat_Add.mono _ _ _
        | exact nat_Of.mono _ _
        | exact LeO.refl _
        | exact LeO.none _
        | refine LeO.ite ?_ ?_
        | refine LeO.bind ?_ (fun _ => ?_)
       | exact LeO.none _ | refine LeO.ite ?_ ?_ | refine LeO.bind ?_ (fun _ => ?_)
    · intro y0 y1
      unfold digits_Parse.l0
      repeat' first
       | with_reducible first
        | exact ih0 _ _
        | exact ih1 _ _
        | exact digits_some.mono _ _
        | exact mul_Small.mono _ _ _
        | exact nat_Add.mono _ _ _
        | exact nat_Of.mono _ _
        | exact LeO.refl _
        | exact LeO.none _
        | refine LeO.ite ?_ ?_
        | refine LeO.bind ?_ (fun _ => ?_)
       | exact LeO.none _ | refine LeO.ite ?_ ?_ | refine LeO.bind ?_ (fun _ => ?_)
theorem digits_Parse.mono : ∀ a0 k, LeO (digits_Parse.f k a0) (digits_Parse.f (k + 1) a0) := by
  intro a0 k
  obtain ⟨ih0, ih1⟩ := digits_Parse.mono_l k
  unfold digits_Parse.f
  repeat' first
   | with_reducible first
    | exact ih0 _ _
    | exact ih1 _ _
    | exact digits_some.mono _ _
    | exact mul_Small.mono _ _ _
    | exact nat_Add.mono _ _ _
    | exact nat_Of.mono _ _
    | exact LeO.refl _
    | exact LeO.none _
    | refine LeO.ite ?_ ?_
    | refine LeO.bind ?_ (fun _ => ?_)
   | exact LeO.none _ | refine LeO.ite ?_ ?_ | refine LeO.bind ?_ (fun _ => ?_)
end Go.Proofs.YtjgmmaeafodpmaaGreatDoor.P
set_option linter.unusedVariables false
set_option linter.unusedSimpArgs false
namespace Go.Proofs.YtjgmmaeafodpmaaGreatDoor.P
open Go.RowKit Go.Proofs.YtjgmmaeafodpmaaGreatDoorW.PrintWords Go.Proofs.YtjgmmaeafodpmaaGreatDoorW.PrintLast Go.Proofs.YtjgmmaeafodpmaaGreatDoorW.PrintMore
def whole_made.f (k : Nat) (a0 : Bool) (l1 : List Int) : Option (Bool × List Int) := if 0 ≤ (l1.length : Int) then (if ((l1.length : Int) : Int).toNat ≤ 70368744177664 then ((nat_Trim.f k (cpy (List.replicate ((l1.length : Int) : Int).toNat 0) 0 l1)).bind fun t287 => (if a0 = true then (some (decide ((t287.length : Int) > 0), t287)) else (some (false, t287)))) else (none)) else (none)
theorem whole_made.mono : ∀ a0 a1 k, LeO (whole_made.f k a0 a1) (whole_made.f (k + 1) a0 a1) := by
  intro a0 a1 k
  unfold whole_made.f
  repeat' first
   | with_reducible first
    | exact nat_Trim.mono _ _
    | exact LeO.refl _
    | exact LeO.none _
    | refine LeO.ite ?_ ?_
    | refine LeO.bind ?_ (fun _ => ?_)
   | exact LeO.none _ | refine LeO.ite ?_ ?_ | refine LeO.bind ?_ (fun _ => ?_)
def whole_Trim.f (k : Nat) (a0_0 : Bool) (l0_1 : List Int) : Option (Bool × List Int) := (whole_made.f k a0_0 l0_1).bind fun bt292 => (some (bt292.1, bt292.2))
theorem whole_Trim.mono : ∀ a0 a1 k, LeO (whole_Trim.f k a0 a1) (whole_Trim.f (k + 1) a0 a1) := by
  intro a0 a1 k
  unfold whole_Trim.f
  repeat' first
   | with_reducible first
    | exact whole_made.mono _ _ _
    | exact LeO.refl _
    | exact LeO.none _
    | refine LeO.ite ?_ ?_
    | refine LeO.bind ?_ (fun _ => ?_)
   | exact LeO.none _ | refine LeO.ite ?_ ?_ | refine LeO.bind ?_ (fun _ => ?_)
mutual
def whole_Cmp.j0 : Nat → Bool → Bool → List Int → Bool → List Int → Option (Int)
  | 0, _, _, _, _, _ => none
  | k + 1, x9, x297000, x297001, x298000, x298001 => if x9 = true then (some (-1)) else (if x298000 = true then (whole_Cmp.j1 k (!x297000) x297000 x297001 x298000 x298001) else (whole_Cmp.j1 k false x297000 x297001 x298000 x298001))
def whole_Cmp.j1 : Nat → Bool → Bool → List Int → Bool → List Int → Option (Int)
  | 0, _, _, _, _, _ => none
  | k + 1, x17, x297000, x297001, x298000, x298001 => if x17 = true then (some 1) else (if x297000 = true then ((nat_Cmp.f k x298001 x297001).bind fun t306 => (some t306)) else ((nat_Cmp.f k x297001 x298001).bind fun t307 => (some t307)))
end
def whole_Cmp.f (k : Nat) (a0_0 : Bool) (l0_1 : List Int) (a1_0 : Bool) (l1_1 : List Int) : Option (Int) := (whole_Trim.f k a0_0 l0_1).bind fun bt298 => ((whole_Trim.f k a1_0 l1_1).bind fun bt302 => (if bt298.1 = true then (whole_Cmp.j0 k (!bt302.1) bt298.1 bt298.2 bt302.1 bt302.2) else (whole_Cmp.j0 k false bt298.1 bt298.2 bt302.1 bt302.2)))
theorem whole_Cmp.mono_l : ∀ k, (∀ y0 y1 y2 y3 y4, LeO (whole_Cmp.j0 k y0 y1 y2 y3 y4) (whole_Cmp.j0 (k + 1) y0 y1 y2 y3 y4)) ∧ (∀ y0 y1 y2 y3 y4, LeO (whole_Cmp.j1 k y0 y1 y2 y3 y4) (whole_Cmp.j1 (k + 1) y0 y1 y2 y3 y4))
  | 0 => ⟨fun _ _ _ _ _ r h => by simp [whole_Cmp.j0] at h, fun _ _ _ _ _ r h => by simp [whole_Cmp.j1] at h⟩
  | k + 1 => by
    obtain ⟨ih0, ih1⟩ := whole_Cmp.mono_l k
    refine ⟨?_, ?_⟩
    · intro y0 y1 y2 y3 y4
      unfold whole_Cmp.j0
      repeat' first
       | with_reducible first
        | exact ih0 _ _ _ _ _
        | exact ih1 _ _ _ _ _
        | exact nat_Cmp.mono _ _ _
        | exact whole_Trim.mono _ _ _
        | exact LeO.refl _
        | exact LeO.none _
        | refine LeO.ite ?_ ?_
        | refine LeO.bind ?_ (fun _ => ?_)
       | exact LeO.none _ | refine LeO.ite ?_ ?_ | refine LeO.bind ?_ (fun _ => ?_)
    · intro y0 y1 y2 y3 y4
      unfold whole_Cmp.j1
      repeat' first
       | with_reducible first
        | exact ih0 _ _ _ _ _
        | exact ih1 _ _ _ _ _
        | exact nat_Cmp.mono _ _ _
        | exact whole_Trim.mono _ _ _
        | exact LeO.refl _
        | exact LeO.none _
        | refine LeO.ite ?_ ?_
        | refine LeO.bind ?_ (fun _ => ?_)
       | exact LeO.none _ | refine LeO.ite ?_ ?_ | refine LeO.bind ?_ (fun _ => ?_)
theorem whole_Cmp.mono : ∀ a0 a1 a2 a3 k, LeO (whole_Cmp.f k a0 a1 a2 a3) (whole_Cmp.f (k + 1) a0 a1 a2 a3) := by
  intro a0 a1 a2 a3 k
  obtain ⟨ih0, ih1⟩ := whole_Cmp.mono_l k
  unfold whole_Cmp.f
  repeat' first
   | with_reducible first
    | exact ih0 _ _ _ _ _
    | exact ih1 _ _ _ _ _
    | exact nat_Cmp.mono _ _ _
    | exact whole_Trim.mono _ _ _
    | exact LeO.refl _
    | exact LeO.none _
    | refine LeO.ite ?_ ?_
    | refine LeO.bind ?_ (fun _ => ?_)
   | exact LeO.none _ | refine LeO.ite ?_ ?_ | refine LeO.bind ?_ (fun _ => ?_)
def whole_Of.f (k : Nat) (a0 : Int) : Option (Bool × List Int) := if a0 < 0 then ((nat_Of.f k (IntKind.u64.wrap (-(IntKind.u64.wrap (a0))))).bind fun t447 => ((whole_made.f k true t447).bind fun bt450 => (some (bt450.1, bt450.2)))) else ((nat_Of.f k (IntKind.u64.wrap (a0))).bind fun t454 => ((whole_made.f k false t454).bind fun bt457 => (some (bt457.1, bt457.2))))
theorem whole_Of.mono : ∀ a0 k, LeO (whole_Of.f k a0) (whole_Of.f (k + 1) a0) := by
  intro a0 k
  unfold whole_Of.f
  repeat' first
   | with_reducible first
    | exact nat_Of.mono _ _
    | exact whole_made.mono _ _ _
    | exact LeO.refl _
    | exact LeO.none _
    | refine LeO.ite ?_ ?_
    | refine LeO.bind ?_ (fun _ => ?_)
   | exact LeO.none _ | refine LeO.ite ?_ ?_ | refine LeO.bind ?_ (fun _ => ?_)
def whole_Add.f (k : Nat) (a0_0 : Bool) (l0_1 : List Int) (a1_0 : Bool) (l1_1 : List Int) : Option (Bool × List Int) := (whole_Trim.f k a0_0 l0_1).bind fun bt464 => ((whole_Trim.f k a1_0 l1_1).bind fun bt468 => (if (bt464.1 == bt468.1) = true then ((nat_Add.f k bt464.2 bt468.2).bind fun t472 => ((whole_made.f k bt464.1 t472).bind fun bt475 => (some (bt475.1, bt475.2)))) else ((nat_Sub.f k bt464.2 bt468.2).bind fun bt479 => (if bt479.2 = true then ((whole_made.f k bt464.1 bt479.1).bind fun bt483 => (some (bt483.1, bt483.2))) else ((nat_Sub.f k bt468.2 bt464.2).bind fun bt487 => ((whole_made.f k bt468.1 bt487.1).bind fun bt491 => (some (bt491.1, bt491.2))))))))
theorem whole_Add.mono : ∀ a0 a1 a2 a3 k, LeO (whole_Add.f k a0 a1 a2 a3) (whole_Add.f (k + 1) a0 a1 a2 a3) := by
  intro a0 a1 a2 a3 k
  unfold whole_Add.f
  repeat' first
   | with_reducible first
    | exact nat_Add.mono _ _ _
    | exact nat_Sub.mono _ _ _
    | exact whole_Trim.mono _ _ _
    | exact whole_made.mono _ _ _
    | exact LeO.refl _
    | exact LeO.none _
    | refine LeO.ite ?_ ?_
    | refine LeO.bind ?_ (fun _ => ?_)
   | exact LeO.none _ | refine LeO.ite ?_ ?_ | refine LeO.bind ?_ (fun _ => ?_)
def whole_Mul.f (k : Nat) (a0_0 : Bool) (l0_1 : List Int) (a1_0 : Bool) (l1_1 : List Int) : Option (Bool × List Int) := (mul_Of.f k l0_1 l1_1).bind fun t1355 => ((whole_made.f k (a0_0 != a1_0) t1355).bind fun bt1358 => (some (bt1358.1, bt1358.2)))
theorem whole_Mul.mono : ∀ a0 a1 a2 a3 k, LeO (whole_Mul.f k a0 a1 a2 a3) (whole_Mul.f (k + 1) a0 a1 a2 a3) := by
  intro a0 a1 a2 a3 k
  unfold whole_Mul.f
  repeat' first
   | with_reducible first
    | exact mul_Of.mono _ _ _
    | exact whole_made.mono _ _ _
    | exact LeO.refl _
    | exact LeO.none _
    | refine LeO.ite ?_ ?_
    | refine LeO.bind ?_ (fun _ => ?_)
   | exact LeO.none _ | refine LeO.ite ?_ ?_ | refine LeO.bind ?_ (fun _ => ?_)
def whole_Text.f (k : Nat) (a0_0 : Bool) (l0_1 : List Int) : Option (ByteArray) := (whole_Trim.f k a0_0 l0_1).bind fun bt1472 => (if bt1472.1 = true then ((digits_Text.f k bt1472.2).bind fun t1476 => (if 1 + t1476.size ≤ 9223372036854775807 then (some ((⟨#[45]⟩ : ByteArray) ++ t1476)) else (none))) else ((digits_Text.f k bt1472.2).bind fun t1477 => (some t1477)))
theorem whole_Text.mono : ∀ a0 a1 k, LeO (whole_Text.f k a0 a1) (whole_Text.f (k + 1) a0 a1) := by
  intro a0 a1 k
  unfold whole_Text.f
  repeat' first
   | with_reducible first
    | exact digits_Text.mono _ _
    | exact whole_Trim.mono _ _ _
    | exact LeO.refl _
    | exact LeO.none _
    | refine LeO.ite ?_ ?_
    | refine LeO.bind ?_ (fun _ => ?_)
   | exact LeO.none _ | refine LeO.ite ?_ ?_ | refine LeO.bind ?_ (fun _ => ?_)
def whole_Parse.f (k : Nat) (a0 : ByteArray) : Option (Bool × List Int × Bool) := (strings_CutPrefix.f a0 (⟨#[45]⟩ : ByteArray)).bind fun bt1500 => ((digits_Parse.f k bt1500.1).bind fun bt1502 => (if bt1502.2 = true then (if bt1500.2 = true then (if (bt1502.1.length : Int) = 0 then (some (false, ([] : List Int), false)) else ((whole_made.f k bt1500.2 bt1502.1).bind fun bt1506 => (some (bt1506.1, bt1506.2, true)))) else ((whole_made.f k bt1500.2 bt1502.1).bind fun bt1510 => (some (bt1510.1, bt1510.2, true)))) else (some (false, ([] : List Int), false))))
theorem whole_Parse.mono : ∀ a0 k, LeO (whole_Parse.f k a0) (whole_Parse.f (k + 1) a0) := by
  intro a0 k
  unfold whole_Parse.f
  repeat' first
   | with_reducible first
    | exact digits_Parse.mono _ _
    | exact whole_made.mono _ _ _
    | exact LeO.refl _
    | exact LeO.none _
    | refine LeO.ite ?_ ?_
    | refine LeO.bind ?_ (fun _ => ?_)
   | exact LeO.none _ | refine LeO.ite ?_ ?_ | refine LeO.bind ?_ (fun _ => ?_)
def whole_Neg.f (k : Nat) (a0_0 : Bool) (l0_1 : List Int) : Option (Bool × List Int) := (whole_made.f k (!a0_0) l0_1).bind fun bt1935 => (some (bt1935.1, bt1935.2))
theorem whole_Neg.mono : ∀ a0 a1 k, LeO (whole_Neg.f k a0 a1) (whole_Neg.f (k + 1) a0 a1) := by
  intro a0 a1 k
  unfold whole_Neg.f
  repeat' first
   | with_reducible first
    | exact whole_made.mono _ _ _
    | exact LeO.refl _
    | exact LeO.none _
    | refine LeO.ite ?_ ?_
    | refine LeO.bind ?_ (fun _ => ?_)
   | exact LeO.none _ | refine LeO.ite ?_ ?_ | refine LeO.bind ?_ (fun _ => ?_)
end Go.Proofs.YtjgmmaeafodpmaaGreatDoor.P
set_option linter.unusedVariables false
set_option linter.unusedSimpArgs false
namespace Go.Proofs.YtjgmmaeafodpmaaGreatDoor.P
open Go.RowKit Go.Proofs.YtjgmmaeafodpmaaGreatDoorW.PrintWords Go.Proofs.YtjgmmaeafodpmaaGreatDoorW.PrintLast Go.Proofs.YtjgmmaeafodpmaaGreatDoorW.PrintMore
def rat_trimmed.f (l0 : List Int) : Option (Bool) := if (l0.length : Int) = 0 then (some true) else (if 0 ≤ (wrap64 ((l0.length : Int) - 1)) then (if (wrap64 ((l0.length : Int) - 1)) < (l0.length : Int) then (some ((rd l0 (wrap64 ((l0.length : Int) - 1))) != 0)) else (none)) else (none))
def rat_Good.j0 : Nat → List Int → List Int → Bool → Option (Bool)
  | 0, _, _, _ => none
  | k + 1, x3, x4, x42 => if x42 = true then (some false) else ((quo_Gcd.f k x3 x4).bind fun t275 => ((nat_Of.f k 1).bind fun t278 => ((nat_Cmp.f k t275 t278).bind fun t281 => (some (t281 == 0)))))
def rat_Good.f (k : Nat) (a0_0 : Bool) (l0_1 : List Int) (l0_2 : List Int) : Option (Bool) := (rat_trimmed.f l0_1).bind fun t273 => (if t273 = true then ((rat_trimmed.f l0_2).bind fun t274 => (if t274 = true then (if (l0_2.length : Int) = 0 then (rat_Good.j0 k l0_1 l0_2 true) else (if (l0_2.length : Int) > 64 then (rat_Good.j0 k l0_1 l0_2 true) else (if (l0_1.length : Int) > 64 then (rat_Good.j0 k l0_1 l0_2 true) else (if a0_0 = true then (rat_Good.j0 k l0_1 l0_2 ((l0_1.length : Int) == 0)) else (rat_Good.j0 k l0_1 l0_2 false))))) else (rat_Good.j0 k l0_1 l0_2 true))) else (rat_Good.j0 k l0_1 l0_2 true))
theorem rat_Good.mono_l : ∀ k, (∀ y0 y1 y2, LeO (rat_Good.j0 k y0 y1 y2) (rat_Good.j0 (k + 1) y0 y1 y2))
  | 0 => fun _ _ _ r h => by simp [rat_Good.j0] at h
  | k + 1 => by
    have ih0 := rat_Good.mono_l k
    · intro y0 y1 y2
      unfold rat_Good.j0
      repeat' first
       | with_reducible first
        | exact ih0 _ _ _
        | exact nat_Cmp.mono _ _ _
        | exact nat_Of.mono _ _
        | exact quo_Gcd.mono _ _ _
        | exact LeO.refl _
        | exact LeO.none _
        | refine LeO.ite ?_ ?_
        | refine LeO.bind ?_ (fun _ => ?_)
       | exact LeO.none _ | refine LeO.ite ?_ ?_ | refine LeO.bind ?_ (fun _ => ?_)
theorem rat_Good.mono : ∀ a0 a1 a2 k, LeO (rat_Good.f k a0 a1 a2) (rat_Good.f (k + 1) a0 a1 a2) := by
  intro a0 a1 a2 k
  have ih0 := rat_Good.mono_l k
  unfold rat_Good.f
  repeat' first
   | with_reducible first
    | exact ih0 _ _ _
    | exact nat_Cmp.mono _ _ _
    | exact nat_Of.mono _ _
    | exact quo_Gcd.mono _ _ _
    | exact LeO.refl _
    | exact LeO.none _
    | refine LeO.ite ?_ ?_
    | refine LeO.bind ?_ (fun _ => ?_)
   | exact LeO.none _ | refine LeO.ite ?_ ?_ | refine LeO.bind ?_ (fun _ => ?_)
def rat_Sign.f (k : Nat) (a0_0 : Bool) (l0_1 : List Int) (l0_2 : List Int) : Option (Int) := (rat_Good.f k a0_0 l0_1 l0_2).bind fun t309 => (if t309 = true then ((whole_Cmp.f k a0_0 l0_1 false ([] : List Int)).bind fun t310 => (some t310)) else (some 0))
theorem rat_Sign.mono : ∀ a0 a1 a2 k, LeO (rat_Sign.f k a0 a1 a2) (rat_Sign.f (k + 1) a0 a1 a2) := by
  intro a0 a1 a2 k
  unfold rat_Sign.f
  repeat' first
   | with_reducible first
    | exact rat_Good.mono _ _ _ _
    | exact whole_Cmp.mono _ _ _ _ _
    | exact LeO.refl _
    | exact LeO.none _
    | refine LeO.ite ?_ ?_
    | refine LeO.bind ?_ (fun _ => ?_)
   | exact LeO.none _ | refine LeO.ite ?_ ?_ | refine LeO.bind ?_ (fun _ => ?_)
def rat_Of.f (k : Nat) (a0_0 : Bool) (l0_1 : List Int) (l1 : List Int) : Option (Bool × List Int × List Int × Int) := (whole_Trim.f k a0_0 l0_1).bind fun bt320 => ((nat_Trim.f k l1).bind fun t324 => (if (t324.length : Int) = 0 then (some (false, ([] : List Int), ([] : List Int), 3)) else ((quo_Gcd.f k bt320.2 t324).bind fun t327 => ((quo_Rem.f k bt320.2 t327).bind fun bt330 => ((quo_Rem.f k t324 t327).bind fun bt337 => (if (bt330.1.length : Int) > 64 then (some (false, ([] : List Int), ([] : List Int), 2)) else (if (bt337.1.length : Int) > 64 then (some (false, ([] : List Int), ([] : List Int), 2)) else (some (bt320.1, bt330.1, bt337.1, 0)))))))))
theorem rat_Of.mono : ∀ a0 a1 a2 k, LeO (rat_Of.f k a0 a1 a2) (rat_Of.f (k + 1) a0 a1 a2) := by
  intro a0 a1 a2 k
  unfold rat_Of.f
  repeat' first
   | with_reducible first
    | exact nat_Trim.mono _ _
    | exact quo_Gcd.mono _ _ _
    | exact quo_Rem.mono _ _ _
    | exact whole_Trim.mono _ _ _
    | exact LeO.refl _
    | exact LeO.none _
    | refine LeO.ite ?_ ?_
    | refine LeO.bind ?_ (fun _ => ?_)
   | exact LeO.none _ | refine LeO.ite ?_ ?_ | refine LeO.bind ?_ (fun _ => ?_)
def rat_cross.f (k : Nat) (a0_0 : Bool) (l0_1 : List Int) (l0_2 : List Int) (a1_0 : Bool) (l1_1 : List Int) (l1_2 : List Int) : Option (Bool × List Int) := (whole_Mul.f k a0_0 l0_1 false l1_2).bind fun bt1365 => (some (bt1365.1, bt1365.2))
theorem rat_cross.mono : ∀ a0 a1 a2 a3 a4 a5 k, LeO (rat_cross.f k a0 a1 a2 a3 a4 a5) (rat_cross.f (k + 1) a0 a1 a2 a3 a4 a5) := by
  intro a0 a1 a2 a3 a4 a5 k
  unfold rat_cross.f
  repeat' first
   | with_reducible first
    | exact whole_Mul.mono _ _ _ _ _
    | exact LeO.refl _
    | exact LeO.none _
    | refine LeO.ite ?_ ?_
    | refine LeO.bind ?_ (fun _ => ?_)
   | exact LeO.none _ | refine LeO.ite ?_ ?_ | refine LeO.bind ?_ (fun _ => ?_)
def rat_Cmp.j0 : Nat → Bool → Bool → List Int → List Int → Bool → List Int → List Int → Option (Int)
  | 0, _, _, _, _, _, _, _ => none
  | k + 1, x12, x1370000, x1370001, x1370002, x1371000, x1371001, x1371002 => if x12 = true then (some 0) else ((rat_cross.f k x1370000 x1370001 x1370002 x1371000 x1371001 x1371002).bind fun bt1373 => ((rat_cross.f k x1371000 x1371001 x1371002 x1370000 x1370001 x1370002).bind fun bt1377 => ((whole_Cmp.f k bt1373.1 bt1373.2 bt1377.1 bt1377.2).bind fun t1381 => (some t1381))))
def rat_Cmp.f (k : Nat) (a0_0 : Bool) (l0_1 : List Int) (l0_2 : List Int) (a1_0 : Bool) (l1_1 : List Int) (l1_2 : List Int) : Option (Int) := (rat_Good.f k a0_0 l0_1 l0_2).bind fun t1371 => (if t1371 = true then ((rat_Good.f k a1_0 l1_1 l1_2).bind fun t1372 => (rat_Cmp.j0 k (!t1372) a0_0 l0_1 l0_2 a1_0 l1_1 l1_2)) else (rat_Cmp.j0 k true a0_0 l0_1 l0_2 a1_0 l1_1 l1_2))
theorem rat_Cmp.mono_l : ∀ k, (∀ y0 y1 y2 y3 y4 y5 y6, LeO (rat_Cmp.j0 k y0 y1 y2 y3 y4 y5 y6) (rat_Cmp.j0 (k + 1) y0 y1 y2 y3 y4 y5 y6))
  | 0 => fun _ _ _ _ _ _ _ r h => by simp [rat_Cmp.j0] at h
  | k + 1 => by
    have ih0 := rat_Cmp.mono_l k
    · intro y0 y1 y2 y3 y4 y5 y6
      unfold rat_Cmp.j0
      repeat' first
       | with_reducible first
        | exact ih0 _ _ _ _ _ _ _
        | exact rat_Good.mono _ _ _ _
        | exact rat_cross.mono _ _ _ _ _ _ _
        | exact whole_Cmp.mono _ _ _ _ _
        | exact LeO.refl _
        | exact LeO.none _
        | refine LeO.ite ?_ ?_
        | refine LeO.bind ?_ (fun _ => ?_)
       | exact LeO.none _ | refine LeO.ite ?_ ?_ | refine LeO.bind ?_ (fun _ => ?_)
theorem rat_Cmp.mono : ∀ a0 a1 a2 a3 a4 a5 k, LeO (rat_Cmp.f k a0 a1 a2 a3 a4 a5) (rat_Cmp.f (k + 1) a0 a1 a2 a3 a4 a5) := by
  intro a0 a1 a2 a3 a4 a5 k
  have ih0 := rat_Cmp.mono_l k
  unfold rat_Cmp.f
  repeat' first
   | with_reducible first
    | exact ih0 _ _ _ _ _ _ _
    | exact rat_Good.mono _ _ _ _
    | exact rat_cross.mono _ _ _ _ _ _ _
    | exact whole_Cmp.mono _ _ _ _ _
    | exact LeO.refl _
    | exact LeO.none _
    | refine LeO.ite ?_ ?_
    | refine LeO.bind ?_ (fun _ => ?_)
   | exact LeO.none _ | refine LeO.ite ?_ ?_ | refine LeO.bind ?_ (fun _ => ?_)
def rat_Whole.f (k : Nat) (a0 : Int) : Option (Bool × List Int × List Int) := (whole_Of.f k a0).bind fun bt1584 => ((nat_Of.f k 1).bind fun t1588 => (some (bt1584.1, bt1584.2, t1588)))
theorem rat_Whole.mono : ∀ a0 k, LeO (rat_Whole.f k a0) (rat_Whole.f (k + 1) a0) := by
  intro a0 k
  unfold rat_Whole.f
  repeat' first
   | with_reducible first
    | exact nat_Of.mono _ _
    | exact whole_Of.mono _ _
    | exact LeO.refl _
    | exact LeO.none _
    | refine LeO.ite ?_ ?_
    | refine LeO.bind ?_ (fun _ => ?_)
   | exact LeO.none _ | refine LeO.ite ?_ ?_ | refine LeO.bind ?_ (fun _ => ?_)
def rat_Neg.f (k : Nat) (a0_0 : Bool) (l0_1 : List Int) (l0_2 : List Int) : Option (Bool × List Int × List Int) := (rat_Good.f k a0_0 l0_1 l0_2).bind fun t1941 => (if t1941 = true then (if 0 ≤ (l0_2.length : Int) then (if ((l0_2.length : Int) : Int).toNat ≤ 70368744177664 then ((whole_Neg.f k a0_0 l0_1).bind fun bt1946 => (some (bt1946.1, bt1946.2, (cpy (List.replicate ((l0_2.length : Int) : Int).toNat 0) 0 l0_2)))) else (none)) else (none)) else (some (false, ([] : List Int), ([] : List Int))))
theorem rat_Neg.mono : ∀ a0 a1 a2 k, LeO (rat_Neg.f k a0 a1 a2) (rat_Neg.f (k + 1) a0 a1 a2) := by
  intro a0 a1 a2 k
  unfold rat_Neg.f
  repeat' first
   | with_reducible first
    | exact rat_Good.mono _ _ _ _
    | exact whole_Neg.mono _ _ _
    | exact LeO.refl _
    | exact LeO.none _
    | refine LeO.ite ?_ ?_
    | refine LeO.bind ?_ (fun _ => ?_)
   | exact LeO.none _ | refine LeO.ite ?_ ?_ | refine LeO.bind ?_ (fun _ => ?_)
def rat_Add.j0 : Nat → Bool → Bool → List Int → List Int → Bool → List Int → List Int → Option (Bool × List Int × List Int × Int)
  | 0, _, _, _, _, _, _, _ => none
  | k + 1, x13, x2115000, x2115001, x2115002, x2116000, x2116001, x2116002 => if x13 = true then (some (false, ([] : List Int), ([] : List Int), 1)) else ((rat_cross.f k x2115000 x2115001 x2115002 x2116000 x2116001 x2116002).bind fun bt2119 => ((rat_cross.f k x2116000 x2116001 x2116002 x2115000 x2115001 x2115002).bind fun bt2123 => ((whole_Add.f k bt2119.1 bt2119.2 bt2123.1 bt2123.2).bind fun bt2127 => ((mul_Of.f k x2115002 x2116002).bind fun t2131 => ((rat_Of.f k bt2127.1 bt2127.2 t2131).bind fun bt2134 => (some (bt2134.1, bt2134.2.1, bt2134.2.2.1, bt2134.2.2.2)))))))
def rat_Add.f (k : Nat) (a0_0 : Bool) (l0_1 : List Int) (l0_2 : List Int) (a1_0 : Bool) (l1_1 : List Int) (l1_2 : List Int) : Option (Bool × List Int × List Int × Int) := (rat_Good.f k a0_0 l0_1 l0_2).bind fun t2117 => (if t2117 = true then ((rat_Good.f k a1_0 l1_1 l1_2).bind fun t2118 => (rat_Add.j0 k (!t2118) a0_0 l0_1 l0_2 a1_0 l1_1 l1_2)) else (rat_Add.j0 k true a0_0 l0_1 l0_2 a1_0 l1_1 l1_2))
theorem rat_Add.mono_l : ∀ k, (∀ y0 y1 y2 y3 y4 y5 y6, LeO (rat_Add.j0 k y0 y1 y2 y3 y4 y5 y6) (rat_Add.j0 (k + 1) y0 y1 y2 y3 y4 y5 y6))
  | 0 => fun _ _ _ _ _ _ _ r h => by simp [rat_Add.j0] at h
  | k + 1 => by
    have ih0 := rat_Add.mono_l k
    · intro y0 y1 y2 y3 y4 y5 y6
      unfold rat_Add.j0
      repeat' first
       | with_reducible first
        | exact ih0 _ _ _ _ _ _ _
        | exact mul_Of.mono _ _ _
        | exact rat_Good.mono _ _ _ _
        | exact rat_Of.mono _ _ _ _
        | exact rat_cross.mono _ _ _ _ _ _ _
        | exact whole_Add.mono _ _ _ _ _
        | exact LeO.refl _
        | exact LeO.none _
        | refine LeO.ite ?_ ?_
        | refine LeO.bind ?_ (fun _ => ?_)
       | exact LeO.none _ | refine LeO.ite ?_ ?_ | refine LeO.bind ?_ (fun _ => ?_)
theorem rat_Add.mono : ∀ a0 a1 a2 a3 a4 a5 k, LeO (rat_Add.f k a0 a1 a2 a3 a4 a5) (rat_Add.f (k + 1) a0 a1 a2 a3 a4 a5) := by
  intro a0 a1 a2 a3 a4 a5 k
  have ih0 := rat_Add.mono_l k
  unfold rat_Add.f
  repeat' first
   | with_reducible first
    | exact ih0 _ _ _ _ _ _ _
    | exact mul_Of.mono _ _ _
    | exact rat_Good.mono _ _ _ _
    | exact rat_Of.mono _ _ _ _
    | exact rat_cross.mono _ _ _ _ _ _ _
    | exact whole_Add.mono _ _ _ _ _
    | exact LeO.refl _
    | exact LeO.none _
    | refine LeO.ite ?_ ?_
    | refine LeO.bind ?_ (fun _ => ?_)
   | exact LeO.none _ | refine LeO.ite ?_ ?_ | refine LeO.bind ?_ (fun _ => ?_)
def rat_Sub.f (k : Nat) (a0_0 : Bool) (l0_1 : List Int) (l0_2 : List Int) (a1_0 : Bool) (l1_1 : List Int) (l1_2 : List Int) : Option (Bool × List Int × List Int × Int) := (rat_Neg.f k a1_0 l1_1 l1_2).bind fun bt2145 => ((rat_Add.f k a0_0 l0_1 l0_2 bt2145.1 bt2145.2.1 bt2145.2.2).bind fun bt2152 => (some (bt2152.1, bt2152.2.1, bt2152.2.2.1, bt2152.2.2.2)))
theorem rat_Sub.mono : ∀ a0 a1 a2 a3 a4 a5 k, LeO (rat_Sub.f k a0 a1 a2 a3 a4 a5) (rat_Sub.f (k + 1) a0 a1 a2 a3 a4 a5) := by
  intro a0 a1 a2 a3 a4 a5 k
  unfold rat_Sub.f
  repeat' first
   | with_reducible first
    | exact rat_Add.mono _ _ _ _ _ _ _
    | exact rat_Neg.mono _ _ _ _
    | exact LeO.refl _
    | exact LeO.none _
    | refine LeO.ite ?_ ?_
    | refine LeO.bind ?_ (fun _ => ?_)
   | exact LeO.none _ | refine LeO.ite ?_ ?_ | refine LeO.bind ?_ (fun _ => ?_)
end Go.Proofs.YtjgmmaeafodpmaaGreatDoor.P
set_option linter.unusedVariables false
set_option linter.unusedSimpArgs false
namespace Go.Proofs.YtjgmmaeafodpmaaGreatDoor.P
open Go.RowKit Go.Proofs.YtjgmmaeafodpmaaGreatDoorW.PrintWords Go.Proofs.YtjgmmaeafodpmaaGreatDoorW.PrintLast Go.Proofs.YtjgmmaeafodpmaaGreatDoorW.PrintMore
def decimal_split.j0 : Nat → Int → Bool → Bool → List Int → List Int → Option (Bool × List Int × Bool × List Int × Int × Int)
  | 0, _, _, _, _, _ => none
  | k + 1, x1, x23, x496000, x496001, x496002 => if x23 = true then (some (false, ([] : List Int), false, ([] : List Int), 0, 1)) else ((digits_Ten.f k x1).bind fun bt499 => ((mul_Of.f k x496001 bt499.1).bind fun t503 => ((quo_Rem.f k t503 x496002).bind fun bt506 => ((nat_Add.f k bt506.2.1 bt506.2.1).bind fun t513 => ((nat_Cmp.f k t513 x496002).bind fun t516 => ((whole_Trim.f k x496000 bt506.1).bind fun bt517 => (if (bt506.2.1.length : Int) = 0 then (some (bt517.1, bt517.2, bt517.1, bt517.2, t516, 0)) else (if x496000 = true then ((whole_Of.f k (-1)).bind fun bt521 => ((whole_Add.f k bt517.1 bt517.2 bt521.1 bt521.2).bind fun bt525 => (some (bt525.1, bt525.2, bt517.1, bt517.2, wrap64 (-t516), 0)))) else ((whole_Of.f k 1).bind fun bt529 => ((whole_Add.f k bt517.1 bt517.2 bt529.1 bt529.2).bind fun bt533 => (some (bt517.1, bt517.2, bt533.1, bt533.2, t516, 0))))))))))))
def decimal_split.f (k : Nat) (a0_0 : Bool) (l0_1 : List Int) (l0_2 : List Int) (a1 : Int) : Option (Bool × List Int × Bool × List Int × Int × Int) := (rat_Good.f k a0_0 l0_1 l0_2).bind fun t498 => (if t498 = true then (if a1 < 0 then (decimal_split.j0 k a1 true a0_0 l0_1 l0_2) else (decimal_split.j0 k a1 (decide (a1 > 60)) a0_0 l0_1 l0_2)) else (decimal_split.j0 k a1 true a0_0 l0_1 l0_2))
theorem decimal_split.mono_l : ∀ k, (∀ y0 y1 y2 y3 y4, LeO (decimal_split.j0 k y0 y1 y2 y3 y4) (decimal_split.j0 (k + 1) y0 y1 y2 y3 y4))
  | 0 => fun _ _ _ _ _ r h => by simp [decimal_split.j0] at h
  | k + 1 => by
    have ih0 := decimal_split.mono_l k
    · intro y0 y1 y2 y3 y4
      unfold decimal_split.j0
      repeat' first
       | with_reducible first
        | exact ih0 _ _ _ _ _
        | exact digits_Ten.mono _ _
        | exact mul_Of.mono _ _ _
        | exact nat_Add.mono _ _ _
        | exact nat_Cmp.mono _ _ _
        | exact quo_Rem.mono _ _ _
        | exact rat_Good.mono _ _ _ _
        | exact whole_Add.mono _ _ _ _ _
        | exact whole_Of.mono _ _
        | exact whole_Trim.mono _ _ _
        | exact LeO.refl _
        | exact LeO.none _
        | refine LeO.ite ?_ ?_
        | refine LeO.bind ?_ (fun _ => ?_)
       | exact LeO.none _ | refine LeO.ite ?_ ?_ | refine LeO.bind ?_ (fun _ => ?_)
theorem decimal_split.mono : ∀ a0 a1 a2 a3 k, LeO (decimal_split.f k a0 a1 a2 a3) (decimal_split.f (k + 1) a0 a1 a2 a3) := by
  intro a0 a1 a2 a3 k
  have ih0 := decimal_split.mono_l k
  unfold decimal_split.f
  repeat' first
   | with_reducible first
    | exact ih0 _ _ _ _ _
    | exact digits_Ten.mono _ _
    | exact mul_Of.mono _ _ _
    | exact nat_Add.mono _ _ _
    | exact nat_Cmp.mono _ _ _
    | exact quo_Rem.mono _ _ _
    | exact rat_Good.mono _ _ _ _
    | exact whole_Add.mono _ _ _ _ _
    | exact whole_Of.mono _ _
    | exact whole_Trim.mono _ _ _
    | exact LeO.refl _
    | exact LeO.none _
    | refine LeO.ite ?_ ?_
    | refine LeO.bind ?_ (fun _ => ?_)
   | exact LeO.none _ | refine LeO.ite ?_ ?_ | refine LeO.bind ?_ (fun _ => ?_)
def decimal_text.j0 : Nat → Int → ByteArray → Bool → List Int → Option (ByteArray)
  | 0, _, _, _, _ => none
  | k + 1, x1, x5, x573000, x573001 => if 0 ≤ (x5.size : Int) then (if ((x5.size : Int) : Int).toNat ≤ 281474976710656 then ((some (List.replicate ((x5.size : Int) : Int).toNat 0 : List Int)).bind fun y575 => ((some (cpy y575 0 (btes x5) : List Int)).bind fun y578 => (if 0 ≤ (wrap64 ((y575.length : Int) - x1)) then (if (wrap64 ((y575.length : Int) - x1)) ≤ (y575.length : Int) then ((some (y578.take ((wrap64 ((y575.length : Int) - x1)) : Int).toNat : List Int)).bind fun y579 => (if x1 > 0 then ((some (y578.drop ((wrap64 ((y575.length : Int) - x1)) : Int).toNat : List Int)).bind fun y583 => (if 1 + (strOfNums y583).size ≤ 9223372036854775807 then (if (strOfNums y579).size + ((⟨#[46]⟩ : ByteArray) ++ (strOfNums y583)).size ≤ 9223372036854775807 then (if x573000 = true then (if 1 + ((strOfNums y579) ++ ((⟨#[46]⟩ : ByteArray) ++ (strOfNums y583))).size ≤ 9223372036854775807 then (some ((⟨#[45]⟩ : ByteArray) ++ ((strOfNums y579) ++ ((⟨#[46]⟩ : ByteArray) ++ (strOfNums y583))))) else (none)) else (some ((strOfNums y579) ++ ((⟨#[46]⟩ : ByteArray) ++ (strOfNums y583))))) else (none)) else (none))) else (if x573000 = true then (if 1 + (strOfNums y579).size ≤ 9223372036854775807 then (some ((⟨#[45]⟩ : ByteArray) ++ (strOfNums y579))) else (none)) else (some (strOfNums y579))))) else (none)) else (none)))) else (none)) else (none)
def decimal_text.f (k : Nat) (a0_0 : Bool) (l0_1 : List Int) (a1 : Int) : Option (ByteArray) := (digits_Text.f k l0_1).bind fun t573 => (if (wrap64 ((wrap64 (a1 + 1)) - (t573.size : Int))) > 0 then ((strings_Repeat.f (⟨#[48]⟩ : ByteArray) (wrap64 ((wrap64 (a1 + 1)) - (t573.size : Int)))).bind fun t574 => (if t574.size + t573.size ≤ 9223372036854775807 then (decimal_text.j0 k a1 (t574 ++ t573) a0_0 l0_1) else (none))) else (decimal_text.j0 k a1 t573 a0_0 l0_1))
theorem decimal_text.mono_l : ∀ k, (∀ y0 y1 y2 y3, LeO (decimal_text.j0 k y0 y1 y2 y3) (decimal_text.j0 (k + 1) y0 y1 y2 y3))
  | 0 => fun _ _ _ _ r h => by simp [decimal_text.j0] at h
  | k + 1 => by
    have ih0 := decimal_text.mono_l k
    · intro y0 y1 y2 y3
      unfold decimal_text.j0
      repeat' first
       | with_reducible first
        | exact ih0 _ _ _ _
        | exact digits_Text.mono _ _
        | exact LeO.refl _
        | exact LeO.none _
        | refine LeO.ite ?_ ?_
        | refine LeO.bind ?_ (fun _ => ?_)
       | exact LeO.none _ | refine LeO.ite ?_ ?_ | refine LeO.bind ?_ (fun _ => ?_)
theorem decimal_text.mono : ∀ a0 a1 a2 k, LeO (decimal_text.f k a0 a1 a2) (decimal_text.f (k + 1) a0 a1 a2) := by
  intro a0 a1 a2 k
  have ih0 := decimal_text.mono_l k
  unfold decimal_text.f
  repeat' first
   | with_reducible first
    | exact ih0 _ _ _ _
    | exact digits_Text.mono _ _
    | exact LeO.refl _
    | exact LeO.none _
    | refine LeO.ite ?_ ?_
    | refine LeO.bind ?_ (fun _ => ?_)
   | exact LeO.none _ | refine LeO.ite ?_ ?_ | refine LeO.bind ?_ (fun _ => ?_)
def decimal_Down.f (k : Nat) (a0_0 : Bool) (l0_1 : List Int) (l0_2 : List Int) (a1 : Int) : Option (ByteArray × Int) := (decimal_split.f k a0_0 l0_1 l0_2 a1).bind fun bt588 => (if bt588.2.2.2.2.2 = 0 then ((decimal_text.f k bt588.1 bt588.2.1 a1).bind fun t600 => (some (t600, 0))) else (some ((⟨#[]⟩ : ByteArray), bt588.2.2.2.2.2)))
theorem decimal_Down.mono : ∀ a0 a1 a2 a3 k, LeO (decimal_Down.f k a0 a1 a2 a3) (decimal_Down.f (k + 1) a0 a1 a2 a3) := by
  intro a0 a1 a2 a3 k
  unfold decimal_Down.f
  repeat' first
   | with_reducible first
    | exact decimal_split.mono _ _ _ _ _
    | exact decimal_text.mono _ _ _ _
    | exact LeO.refl _
    | exact LeO.none _
    | refine LeO.ite ?_ ?_
    | refine LeO.bind ?_ (fun _ => ?_)
   | exact LeO.none _ | refine LeO.ite ?_ ?_ | refine LeO.bind ?_ (fun _ => ?_)
def decimal_Exact.f (k : Nat) (a0_0 : Bool) (l0_1 : List Int) (l0_2 : List Int) : Option (ByteArray) := (rat_Good.f k a0_0 l0_1 l0_2).bind fun t1479 => (if t1479 = true then ((whole_Text.f k a0_0 l0_1).bind fun t1480 => ((digits_Text.f k l0_2).bind fun t1481 => (if t1481.toList = ([49] : List UInt8) then (some t1480) else (if 1 + t1481.size ≤ 9223372036854775807 then (if t1480.size + ((⟨#[47]⟩ : ByteArray) ++ t1481).size ≤ 9223372036854775807 then (some (t1480 ++ ((⟨#[47]⟩ : ByteArray) ++ t1481))) else (none)) else (none))))) else (some (⟨#[]⟩ : ByteArray)))
theorem decimal_Exact.mono : ∀ a0 a1 a2 k, LeO (decimal_Exact.f k a0 a1 a2) (decimal_Exact.f (k + 1) a0 a1 a2) := by
  intro a0 a1 a2 k
  unfold decimal_Exact.f
  repeat' first
   | with_reducible first
    | exact digits_Text.mono _ _
    | exact rat_Good.mono _ _ _ _
    | exact whole_Text.mono _ _ _
    | exact LeO.refl _
    | exact LeO.none _
    | refine LeO.ite ?_ ?_
    | refine LeO.bind ?_ (fun _ => ?_)
   | exact LeO.none _ | refine LeO.ite ?_ ?_ | refine LeO.bind ?_ (fun _ => ?_)
mutual
def decimal_Parse.j0 : Nat → ByteArray → ByteArray → ByteArray → Option (Bool × List Int × List Int × Int)
  | 0, _, _, _ => none
  | k + 1, x0, x4, x5 => (whole_Parse.f k x4).bind fun bt1518 => ((digits_Parse.f k x5).bind fun bt1524 => (if bt1518.2.2 = true then (decimal_Parse.j1 k x0 bt1524.1 (!bt1524.2) bt1518.1 bt1518.2.1) else (decimal_Parse.j1 k x0 bt1524.1 true bt1518.1 bt1518.2.1)))
def decimal_Parse.j1 : Nat → ByteArray → List Int → Bool → Bool → List Int → Option (Bool × List Int × List Int × Int)
  | 0, _, _, _, _, _ => none
  | k + 1, x0, x9, x36, x1524000, x1524001 => if x36 = true then (some (false, ([] : List Int), ([] : List Int), 12)) else ((rat_Of.f k x1524000 x1524001 x9).bind fun bt1528 => (if bt1528.2.2.2 = 0 then ((decimal_Exact.f k bt1528.1 bt1528.2.1 bt1528.2.2.1).bind fun t1537 => (if t1537.toList = x0.toList then (some (bt1528.1, bt1528.2.1, bt1528.2.2.1, 0)) else (some (false, ([] : List Int), ([] : List Int), 12)))) else (some (false, ([] : List Int), ([] : List Int), 12))))
end
def decimal_Parse.f (k : Nat) (a0 : ByteArray) : Option (Bool × List Int × List Int × Int) := (strings_Cut.f a0 (⟨#[47]⟩ : ByteArray)).bind fun bt1515 => (if bt1515.2.1.toList = ([] : List UInt8) then (decimal_Parse.j0 k a0 bt1515.1 (⟨#[49]⟩ : ByteArray)) else (decimal_Parse.j0 k a0 bt1515.1 bt1515.2.1))
theorem decimal_Parse.mono_l : ∀ k, (∀ y0 y1 y2, LeO (decimal_Parse.j0 k y0 y1 y2) (decimal_Parse.j0 (k + 1) y0 y1 y2)) ∧ (∀ y0 y1 y2 y3 y4, LeO (decimal_Parse.j1 k y0 y1 y2 y3 y4) (decimal_Parse.j1 (k + 1) y0 y1 y2 y3 y4))
  | 0 => ⟨fun _ _ _ r h => by simp [decimal_Parse.j0] at h, fun _ _ _ _ _ r h => by simp [decimal_Parse.j1] at h⟩
  | k + 1 => by
    obtain ⟨ih0, ih1⟩ := decimal_Parse.mono_l k
    refine ⟨?_, ?_⟩
    · intro y0 y1 y2
      unfold decimal_Parse.j0
      repeat' first
       | with_reducible first
        | exact ih0 _ _ _
        | exact ih1 _ _ _ _ _
        | exact decimal_Exact.mono _ _ _ _
        | exact digits_Parse.mono _ _
        | exact rat_Of.mono _ _ _ _
        | exact whole_Parse.mono _ _
        | exact LeO.refl _
        | exact LeO.none _
        | refine LeO.ite ?_ ?_
        | refine LeO.bind ?_ (fun _ => ?_)
       | exact LeO.none _ | refine LeO.ite ?_ ?_ | refine LeO.bind ?_ (fun _ => ?_)
    · intro y0 y1 y2 y3 y4
      unfold decimal_Parse.j1
      repeat' first
       | with_reducible first
        | exact ih0 _ _ _
        | exact ih1 _ _ _ _ _
        | exact decimal_Exact.mono _ _ _ _
        | exact digits_Parse.mono _ _
        | exact rat_Of.mono _ _ _ _
        | exact whole_Parse.mono _ _
        | exact LeO.refl _
        | exact LeO.none _
        | refine LeO.ite ?_ ?_
        | refine LeO.bind ?_ (fun _ => ?_)
       | exact LeO.none _ | refine LeO.ite ?_ ?_ | refine LeO.bind ?_ (fun _ => ?_)
theorem decimal_Parse.mono : ∀ a0 k, LeO (decimal_Parse.f k a0) (decimal_Parse.f (k + 1) a0) := by
  intro a0 k
  obtain ⟨ih0, ih1⟩ := decimal_Parse.mono_l k
  unfold decimal_Parse.f
  repeat' first
   | with_reducible first
    | exact ih0 _ _ _
    | exact ih1 _ _ _ _ _
    | exact decimal_Exact.mono _ _ _ _
    | exact digits_Parse.mono _ _
    | exact rat_Of.mono _ _ _ _
    | exact whole_Parse.mono _ _
    | exact LeO.refl _
    | exact LeO.none _
    | refine LeO.ite ?_ ?_
    | refine LeO.bind ?_ (fun _ => ?_)
   | exact LeO.none _ | refine LeO.ite ?_ ?_ | refine LeO.bind ?_ (fun _ => ?_)
def decimal_Up.f (k : Nat) (a0_0 : Bool) (l0_1 : List Int) (l0_2 : List Int) (a1 : Int) : Option (ByteArray × Int) := (decimal_split.f k a0_0 l0_1 l0_2 a1).bind fun bt1539 => (if bt1539.2.2.2.2.2 = 0 then ((decimal_text.f k bt1539.2.2.1 bt1539.2.2.2.1 a1).bind fun t1551 => (some (t1551, 0))) else (some ((⟨#[]⟩ : ByteArray), bt1539.2.2.2.2.2)))
theorem decimal_Up.mono : ∀ a0 a1 a2 a3 k, LeO (decimal_Up.f k a0 a1 a2 a3) (decimal_Up.f (k + 1) a0 a1 a2 a3) := by
  intro a0 a1 a2 a3 k
  unfold decimal_Up.f
  repeat' first
   | with_reducible first
    | exact decimal_split.mono _ _ _ _ _
    | exact decimal_text.mono _ _ _ _
    | exact LeO.refl _
    | exact LeO.none _
    | refine LeO.ite ?_ ?_
    | refine LeO.bind ?_ (fun _ => ?_)
   | exact LeO.none _ | refine LeO.ite ?_ ?_ | refine LeO.bind ?_ (fun _ => ?_)
def decimal_Near.j0 : Nat → Int → Bool → Bool → List Int → Bool → List Int → Option (ByteArray × Int)
  | 0, _, _, _, _, _, _ => none
  | k + 1, x1, x22, x1565000, x1565001, x1566000, x1566001 => if x22 = true then ((decimal_text.f k x1566000 x1566001 x1).bind fun t1567 => (some (t1567, 0))) else ((decimal_text.f k x1565000 x1565001 x1).bind fun t1568 => (some (t1568, 0)))
def decimal_Near.f (k : Nat) (a0_0 : Bool) (l0_1 : List Int) (l0_2 : List Int) (a1 : Int) : Option (ByteArray × Int) := (decimal_split.f k a0_0 l0_1 l0_2 a1).bind fun bt1554 => (if bt1554.2.2.2.2.2 = 0 then (if bt1554.2.2.2.2.1 > 0 then (decimal_Near.j0 k a1 true bt1554.1 bt1554.2.1 bt1554.2.2.1 bt1554.2.2.2.1) else (if bt1554.2.2.2.2.1 = 0 then ((nat_Bit.f bt1554.2.1 0).bind fun t1566 => (decimal_Near.j0 k a1 t1566 bt1554.1 bt1554.2.1 bt1554.2.2.1 bt1554.2.2.2.1)) else (decimal_Near.j0 k a1 false bt1554.1 bt1554.2.1 bt1554.2.2.1 bt1554.2.2.2.1))) else (some ((⟨#[]⟩ : ByteArray), bt1554.2.2.2.2.2)))
theorem decimal_Near.mono_l : ∀ k, (∀ y0 y1 y2 y3 y4 y5, LeO (decimal_Near.j0 k y0 y1 y2 y3 y4 y5) (decimal_Near.j0 (k + 1) y0 y1 y2 y3 y4 y5))
  | 0 => fun _ _ _ _ _ _ r h => by simp [decimal_Near.j0] at h
  | k + 1 => by
    have ih0 := decimal_Near.mono_l k
    · intro y0 y1 y2 y3 y4 y5
      unfold decimal_Near.j0
      repeat' first
       | with_reducible first
        | exact ih0 _ _ _ _ _ _
        | exact decimal_split.mono _ _ _ _ _
        | exact decimal_text.mono _ _ _ _
        | exact LeO.refl _
        | exact LeO.none _
        | refine LeO.ite ?_ ?_
        | refine LeO.bind ?_ (fun _ => ?_)
       | exact LeO.none _ | refine LeO.ite ?_ ?_ | refine LeO.bind ?_ (fun _ => ?_)
theorem decimal_Near.mono : ∀ a0 a1 a2 a3 k, LeO (decimal_Near.f k a0 a1 a2 a3) (decimal_Near.f (k + 1) a0 a1 a2 a3) := by
  intro a0 a1 a2 a3 k
  have ih0 := decimal_Near.mono_l k
  unfold decimal_Near.f
  repeat' first
   | with_reducible first
    | exact ih0 _ _ _ _ _ _
    | exact decimal_split.mono _ _ _ _ _
    | exact decimal_text.mono _ _ _ _
    | exact LeO.refl _
    | exact LeO.none _
    | refine LeO.ite ?_ ?_
    | refine LeO.bind ?_ (fun _ => ?_)
   | exact LeO.none _ | refine LeO.ite ?_ ?_ | refine LeO.bind ?_ (fun _ => ?_)
def decimal_Floor.f (k : Nat) (a0_0 : Bool) (l0_1 : List Int) (l0_2 : List Int) (a1 : Int) : Option (Bool × List Int × Int) := (decimal_split.f k a0_0 l0_1 l0_2 a1).bind fun bt1571 => (some (bt1571.1, bt1571.2.1, bt1571.2.2.2.2.2))
theorem decimal_Floor.mono : ∀ a0 a1 a2 a3 k, LeO (decimal_Floor.f k a0 a1 a2 a3) (decimal_Floor.f (k + 1) a0 a1 a2 a3) := by
  intro a0 a1 a2 a3 k
  unfold decimal_Floor.f
  repeat' first
   | with_reducible first
    | exact decimal_split.mono _ _ _ _ _
    | exact LeO.refl _
    | exact LeO.none _
    | refine LeO.ite ?_ ?_
    | refine LeO.bind ?_ (fun _ => ?_)
   | exact LeO.none _ | refine LeO.ite ?_ ?_ | refine LeO.bind ?_ (fun _ => ?_)
end Go.Proofs.YtjgmmaeafodpmaaGreatDoor.P
set_option linter.unusedVariables false
set_option linter.unusedSimpArgs false
namespace Go.Proofs.YtjgmmaeafodpmaaGreatDoor.P
open Go.RowKit Go.Proofs.YtjgmmaeafodpmaaGreatDoorW.PrintWords Go.Proofs.YtjgmmaeafodpmaaGreatDoorW.PrintLast Go.Proofs.YtjgmmaeafodpmaaGreatDoorW.PrintMore
def steelyardkeep_Nat.l0 : Nat → List Int → List Int → Int → Option (Bool)
  | 0, _, _, _ => none
  | k + 1, x0, x1, x5 => if x5 < (x0.length : Int) then (if 0 ≤ x5 then (if x5 < (x1.length : Int) then (if (rd x0 x5) = (rd x1 x5) then (steelyardkeep_Nat.l0 k x0 x1 (wrap64 (x5 + 1))) else (some false)) else (none)) else (none)) else (some true)
def steelyardkeep_Nat.f (k : Nat) (l0 : List Int) (l1 : List Int) : Option (Bool) := if (l0.length : Int) = (l1.length : Int) then (steelyardkeep_Nat.l0 k l0 l1 0) else (some false)
theorem steelyardkeep_Nat.mono_l : ∀ k, (∀ y0 y1 y2, LeO (steelyardkeep_Nat.l0 k y0 y1 y2) (steelyardkeep_Nat.l0 (k + 1) y0 y1 y2))
  | 0 => fun _ _ _ r h => by simp [steelyardkeep_Nat.l0] at h
  | k + 1 => by
    have ih0 := steelyardkeep_Nat.mono_l k
    · intro y0 y1 y2
      unfold steelyardkeep_Nat.l0
      repeat' first
       | with_reducible first
        | exact ih0 _ _ _
        | exact LeO.refl _
        | exact LeO.none _
        | refine LeO.ite ?_ ?_
        | refine LeO.bind ?_ (fun _ => ?_)
       | exact LeO.none _ | refine LeO.ite ?_ ?_ | refine LeO.bind ?_ (fun _ => ?_)
theorem steelyardkeep_Nat.mono : ∀ a0 a1 k, LeO (steelyardkeep_Nat.f k a0 a1) (steelyardkeep_Nat.f (k + 1) a0 a1) := by
  intro a0 a1 k
  have ih0 := steelyardkeep_Nat.mono_l k
  unfold steelyardkeep_Nat.f
  repeat' first
   | with_reducible first
    | exact ih0 _ _ _
    | exact LeO.refl _
    | exact LeO.none _
    | refine LeO.ite ?_ ?_
    | refine LeO.bind ?_ (fun _ => ?_)
   | exact LeO.none _ | refine LeO.ite ?_ ?_ | refine LeO.bind ?_ (fun _ => ?_)
def steelyardkeep_Int.f (k : Nat) (a0_0 : Bool) (l0_1 : List Int) (a1_0 : Bool) (l1_1 : List Int) : Option (Bool) := if (a0_0 == a1_0) = true then ((steelyardkeep_Nat.f k l0_1 l1_1).bind fun t627 => (some t627)) else (some false)
theorem steelyardkeep_Int.mono : ∀ a0 a1 a2 a3 k, LeO (steelyardkeep_Int.f k a0 a1 a2 a3) (steelyardkeep_Int.f (k + 1) a0 a1 a2 a3) := by
  intro a0 a1 a2 a3 k
  unfold steelyardkeep_Int.f
  repeat' first
   | with_reducible first
    | exact steelyardkeep_Nat.mono _ _ _
    | exact LeO.refl _
    | exact LeO.none _
    | refine LeO.ite ?_ ?_
    | refine LeO.bind ?_ (fun _ => ?_)
   | exact LeO.none _ | refine LeO.ite ?_ ?_ | refine LeO.bind ?_ (fun _ => ?_)
def steelyardkeep_Rat.f (k : Nat) (a0_0 : Bool) (l0_1 : List Int) (l0_2 : List Int) (a1_0 : Bool) (l1_1 : List Int) (l1_2 : List Int) : Option (Bool) := (steelyardkeep_Int.f k a0_0 l0_1 a1_0 l1_1).bind fun t630 => (if t630 = true then ((steelyardkeep_Nat.f k l0_2 l1_2).bind fun t631 => (some t631)) else (some false))
theorem steelyardkeep_Rat.mono : ∀ a0 a1 a2 a3 a4 a5 k, LeO (steelyardkeep_Rat.f k a0 a1 a2 a3 a4 a5) (steelyardkeep_Rat.f (k + 1) a0 a1 a2 a3 a4 a5) := by
  intro a0 a1 a2 a3 a4 a5 k
  unfold steelyardkeep_Rat.f
  repeat' first
   | with_reducible first
    | exact steelyardkeep_Int.mono _ _ _ _ _
    | exact steelyardkeep_Nat.mono _ _ _
    | exact LeO.refl _
    | exact LeO.none _
    | refine LeO.ite ?_ ?_
    | refine LeO.bind ?_ (fun _ => ?_)
   | exact LeO.none _ | refine LeO.ite ?_ ?_ | refine LeO.bind ?_ (fun _ => ?_)
end Go.Proofs.YtjgmmaeafodpmaaGreatDoor.P
set_option linter.unusedVariables false
set_option linter.unusedSimpArgs false
namespace Go.Proofs.YtjgmmaeafodpmaaGreatDoor.P
open Go.RowKit Go.Proofs.YtjgmmaeafodpmaaGreatDoorW.PrintWords Go.Proofs.YtjgmmaeafodpmaaGreatDoorW.PrintLast Go.Proofs.YtjgmmaeafodpmaaGreatDoorW.PrintMore
def steelyardref01_Trim.l0 : Nat → List Int → Int → Option (List Int)
  | 0, _, _ => none
  | k + 1, x0, x3 => if x3 > 0 then (if 0 ≤ (wrap64 (x3 - 1)) then (if (wrap64 (x3 - 1)) < (x0.length : Int) then (if (rd x0 (wrap64 (x3 - 1))) = 0 then (steelyardref01_Trim.l0 k x0 (wrap64 (x3 - 1))) else ((some (([] : List Int) : List Int)).bind fun y633 => (if 0 ≤ x3 then (if x3 ≤ (x0.length : Int) then (if y633.length + (x0.take (x3 : Int).toNat).length < 35184372088832 then (some (y633 ++ (x0.take (x3 : Int).toNat))) else (none)) else (none)) else (none)))) else (none)) else (none)) else ((some (([] : List Int) : List Int)).bind fun y640 => (if 0 ≤ x3 then (if x3 ≤ (x0.length : Int) then (if y640.length + (x0.take (x3 : Int).toNat).length < 35184372088832 then (some (y640 ++ (x0.take (x3 : Int).toNat))) else (none)) else (none)) else (none)))
def steelyardref01_Trim.f (k : Nat) (l0 : List Int) : Option (List Int) := steelyardref01_Trim.l0 k l0 (l0.length : Int)
theorem steelyardref01_Trim.mono_l : ∀ k, (∀ y0 y1, LeO (steelyardref01_Trim.l0 k y0 y1) (steelyardref01_Trim.l0 (k + 1) y0 y1))
  | 0 => fun _ _ r h => by simp [steelyardref01_Trim.l0] at h
  | k + 1 => by
    have ih0 := steelyardref01_Trim.mono_l k
    · intro y0 y1
      unfold steelyardref01_Trim.l0
      repeat' first
       | with_reducible first
        | exact ih0 _ _
        | exact LeO.refl _
        | exact LeO.none _
        | refine LeO.ite ?_ ?_
        | refine LeO.bind ?_ (fun _ => ?_)
       | exact LeO.none _ | refine LeO.ite ?_ ?_ | refine LeO.bind ?_ (fun _ => ?_)
theorem steelyardref01_Trim.mono : ∀ a0 k, LeO (steelyardref01_Trim.f k a0) (steelyardref01_Trim.f (k + 1) a0) := by
  intro a0 k
  have ih0 := steelyardref01_Trim.mono_l k
  unfold steelyardref01_Trim.f
  repeat' first
   | with_reducible first
    | exact ih0 _ _
    | exact LeO.refl _
    | exact LeO.none _
    | refine LeO.ite ?_ ?_
    | refine LeO.bind ?_ (fun _ => ?_)
   | exact LeO.none _ | refine LeO.ite ?_ ?_ | refine LeO.bind ?_ (fun _ => ?_)
def steelyardref01_Of.f (k : Nat) (a0 : Int) : Option (List Int) := (steelyardref01_Trim.f k (([(a0) % 4294967296, (a0 / 4294967296) % 4294967296] : List Int))).bind fun t654 => (some t654)
theorem steelyardref01_Of.mono : ∀ a0 k, LeO (steelyardref01_Of.f k a0) (steelyardref01_Of.f (k + 1) a0) := by
  intro a0 k
  unfold steelyardref01_Of.f
  repeat' first
   | with_reducible first
    | exact steelyardref01_Trim.mono _ _
    | exact LeO.refl _
    | exact LeO.none _
    | refine LeO.ite ?_ ?_
    | refine LeO.bind ?_ (fun _ => ?_)
   | exact LeO.none _ | refine LeO.ite ?_ ?_ | refine LeO.bind ?_ (fun _ => ?_)
def steelyardref01_at.f (l0 : List Int) (a1 : Int) : Option (Int) := if a1 ≥ (l0.length : Int) then (some 0) else (if 0 ≤ a1 then (if a1 < (l0.length : Int) then (some (IntKind.u64.wrap (rd l0 a1))) else (none)) else (none))
def steelyardref01_Cmp.l0 : Nat → List Int → List Int → Int → Option (Int)
  | 0, _, _, _ => none
  | k + 1, x0, x1, x5 => if x5 ≥ 0 then ((steelyardref01_at.f x0 x5).bind fun t682 => ((steelyardref01_at.f x1 x5).bind fun t683 => (if t682 < t683 then (some (-1)) else ((steelyardref01_at.f x0 x5).bind fun t684 => ((steelyardref01_at.f x1 x5).bind fun t685 => (if t684 > t685 then (some 1) else (steelyardref01_Cmp.l0 k x0 x1 (wrap64 (x5 - 1))))))))) else (some 0)
def steelyardref01_Cmp.f (k : Nat) (l0 : List Int) (l1 : List Int) : Option (Int) := steelyardref01_Cmp.l0 k l0 l1 (wrap64 ((mx (l0.length : Int) (l1.length : Int)) - 1))
theorem steelyardref01_Cmp.mono_l : ∀ k, (∀ y0 y1 y2, LeO (steelyardref01_Cmp.l0 k y0 y1 y2) (steelyardref01_Cmp.l0 (k + 1) y0 y1 y2))
  | 0 => fun _ _ _ r h => by simp [steelyardref01_Cmp.l0] at h
  | k + 1 => by
    have ih0 := steelyardref01_Cmp.mono_l k
    · intro y0 y1 y2
      unfold steelyardref01_Cmp.l0
      repeat' first
       | with_reducible first
        | exact ih0 _ _ _
        | exact LeO.refl _
        | exact LeO.none _
        | refine LeO.ite ?_ ?_
        | refine LeO.bind ?_ (fun _ => ?_)
       | exact LeO.none _ | refine LeO.ite ?_ ?_ | refine LeO.bind ?_ (fun _ => ?_)
theorem steelyardref01_Cmp.mono : ∀ a0 a1 k, LeO (steelyardref01_Cmp.f k a0 a1) (steelyardref01_Cmp.f (k + 1) a0 a1) := by
  intro a0 a1 k
  have ih0 := steelyardref01_Cmp.mono_l k
  unfold steelyardref01_Cmp.f
  repeat' first
   | with_reducible first
    | exact ih0 _ _ _
    | exact LeO.refl _
    | exact LeO.none _
    | refine LeO.ite ?_ ?_
    | refine LeO.bind ?_ (fun _ => ?_)
   | exact LeO.none _ | refine LeO.ite ?_ ?_ | refine LeO.bind ?_ (fun _ => ?_)
def steelyardref01_Bit.f (l0 : List Int) (a1 : Int) : Option (Bool) := if a1 ≥ 0 then ((steelyardref01_at.f l0 (wrap64 (Int.tdiv a1 32))).bind fun t699 => (if 0 ≤ (IntKind.u64.wrap (Int.tmod a1 32)) then (some ((Go.bits .and .u64 (shr .u64 t699 (IntKind.u64.wrap (Int.tmod a1 32))) 1) == 1)) else (none))) else (some false)
def steelyardref01_Bits.l0 : Nat → List Int → Int → Option (Int)
  | 0, _, _ => none
  | k + 1, x0, x3 => if x3 > 0 then ((steelyardref01_Bit.f x0 (wrap64 (x3 - 1))).bind fun t700 => (if t700 = true then (some x3) else (steelyardref01_Bits.l0 k x0 (wrap64 (x3 - 1))))) else (some x3)
def steelyardref01_Bits.f (k : Nat) (l0 : List Int) : Option (Int) := steelyardref01_Bits.l0 k l0 (wrap64 (32 * (l0.length : Int)))
theorem steelyardref01_Bits.mono_l : ∀ k, (∀ y0 y1, LeO (steelyardref01_Bits.l0 k y0 y1) (steelyardref01_Bits.l0 (k + 1) y0 y1))
  | 0 => fun _ _ r h => by simp [steelyardref01_Bits.l0] at h
  | k + 1 => by
    have ih0 := steelyardref01_Bits.mono_l k
    · intro y0 y1
      unfold steelyardref01_Bits.l0
      repeat' first
       | with_reducible first
        | exact ih0 _ _
        | exact LeO.refl _
        | exact LeO.none _
        | refine LeO.ite ?_ ?_
        | refine LeO.bind ?_ (fun _ => ?_)
       | exact LeO.none _ | refine LeO.ite ?_ ?_ | refine LeO.bind ?_ (fun _ => ?_)
theorem steelyardref01_Bits.mono : ∀ a0 k, LeO (steelyardref01_Bits.f k a0) (steelyardref01_Bits.f (k + 1) a0) := by
  intro a0 k
  have ih0 := steelyardref01_Bits.mono_l k
  unfold steelyardref01_Bits.f
  repeat' first
   | with_reducible first
    | exact ih0 _ _
    | exact LeO.refl _
    | exact LeO.none _
    | refine LeO.ite ?_ ?_
    | refine LeO.bind ?_ (fun _ => ?_)
   | exact LeO.none _ | refine LeO.ite ?_ ?_ | refine LeO.bind ?_ (fun _ => ?_)
def steelyardref01_Sub.l0 : Nat → List Int → List Int → List Int → Int → Int → Option (List Int)
  | 0, _, _, _, _, _ => none
  | k + 1, x0, x1, x5, x6, x7 => if x7 < (x0.length : Int) then ((steelyardref01_at.f x0 x7).bind fun t704 => ((steelyardref01_at.f x1 x7).bind fun t705 => (if t704 < (IntKind.u64.wrap (t705 + x6)) then (if x5.length < 35184372088832 then (steelyardref01_Sub.l0 k x0 x1 (x5 ++ [(IntKind.u64.wrap ((IntKind.u64.wrap (t704 + 4294967296)) - (IntKind.u64.wrap (t705 + x6)))) % 4294967296]) 1 (wrap64 (x7 + 1))) else (none)) else (if x5.length < 35184372088832 then (steelyardref01_Sub.l0 k x0 x1 (x5 ++ [(IntKind.u64.wrap (t704 - (IntKind.u64.wrap (t705 + x6)))) % 4294967296]) 0 (wrap64 (x7 + 1))) else (none))))) else ((steelyardref01_Trim.f k x5).bind fun t701 => (some t701))
def steelyardref01_Sub.f (k : Nat) (l0 : List Int) (l1 : List Int) : Option (List Int) := steelyardref01_Sub.l0 k l0 l1 ([] : List Int) 0 0
theorem steelyardref01_Sub.mono_l : ∀ k, (∀ y0 y1 y2 y3 y4, LeO (steelyardref01_Sub.l0 k y0 y1 y2 y3 y4) (steelyardref01_Sub.l0 (k + 1) y0 y1 y2 y3 y4))
  | 0 => fun _ _ _ _ _ r h => by simp [steelyardref01_Sub.l0] at h
  | k + 1 => by
    have ih0 := steelyardref01_Sub.mono_l k
    · intro y0 y1 y2 y3 y4
      unfold steelyardref01_Sub.l0
      repeat' first
       | with_reducible first
        | exact ih0 _ _ _ _ _
        | exact steelyardref01_Trim.mono _ _
        | exact LeO.refl _
        | exact LeO.none _
        | refine LeO.ite ?_ ?_
        | refine LeO.bind ?_ (fun _ => ?_)
       | exact LeO.none _ | refine LeO.ite ?_ ?_ | refine LeO.bind ?_ (fun _ => ?_)
theorem steelyardref01_Sub.mono : ∀ a0 a1 k, LeO (steelyardref01_Sub.f k a0 a1) (steelyardref01_Sub.f (k + 1) a0 a1) := by
  intro a0 a1 k
  have ih0 := steelyardref01_Sub.mono_l k
  unfold steelyardref01_Sub.f
  repeat' first
   | with_reducible first
    | exact ih0 _ _ _ _ _
    | exact steelyardref01_Trim.mono _ _
    | exact LeO.refl _
    | exact LeO.none _
    | refine LeO.ite ?_ ?_
    | refine LeO.bind ?_ (fun _ => ?_)
   | exact LeO.none _ | refine LeO.ite ?_ ?_ | refine LeO.bind ?_ (fun _ => ?_)
mutual
def steelyardref01_Add.l0 : Nat → List Int → List Int → List Int → Int → Int → Option (List Int)
  | 0, _, _, _, _, _ => none
  | k + 1, x0, x1, x5, x6, x7 => if x7 < (x0.length : Int) then (steelyardref01_Add.j1 k x0 x1 x5 x6 x7 true) else (if x7 < (x1.length : Int) then (steelyardref01_Add.j1 k x0 x1 x5 x6 x7 true) else (steelyardref01_Add.j1 k x0 x1 x5 x6 x7 (decide (x6 > 0))))
def steelyardref01_Add.j1 : Nat → List Int → List Int → List Int → Int → Int → Bool → Option (List Int)
  | 0, _, _, _, _, _, _ => none
  | k + 1, x0, x1, x5, x6, x7, x21 => if x21 = true then ((steelyardref01_at.f x0 x7).bind fun t775 => ((steelyardref01_at.f x1 x7).bind fun t776 => (if x5.length < 35184372088832 then (steelyardref01_Add.l0 k x0 x1 (x5 ++ [(IntKind.u64.wrap (x6 + (IntKind.u64.wrap (t775 + t776)))) % 4294967296]) ((IntKind.u64.wrap (x6 + (IntKind.u64.wrap (t775 + t776)))) / 4294967296) (wrap64 (x7 + 1))) else (none)))) else ((steelyardref01_Trim.f k x5).bind fun t780 => (some t780))
end
def steelyardref01_Add.f (k : Nat) (l0 : List Int) (l1 : List Int) : Option (List Int) := steelyardref01_Add.l0 k l0 l1 ([] : List Int) 0 0
theorem steelyardref01_Add.mono_l : ∀ k, (∀ y0 y1 y2 y3 y4, LeO (steelyardref01_Add.l0 k y0 y1 y2 y3 y4) (steelyardref01_Add.l0 (k + 1) y0 y1 y2 y3 y4)) ∧ (∀ y0 y1 y2 y3 y4 y5, LeO (steelyardref01_Add.j1 k y0 y1 y2 y3 y4 y5) (steelyardref01_Add.j1 (k + 1) y0 y1 y2 y3 y4 y5))
  | 0 => ⟨fun _ _ _ _ _ r h => by simp [steelyardref01_Add.l0] at h, fun _ _ _ _ _ _ r h => by simp [steelyardref01_Add.j1] at h⟩
  | k + 1 => by
    obtain ⟨ih0, ih1⟩ := steelyardref01_Add.mono_l k
    refine ⟨?_, ?_⟩
    · intro y0 y1 y2 y3 y4
      unfold steelyardref01_Add.l0
      repeat' first
       | with_reducible first
        | exact ih0 _ _ _ _ _
        | exact ih1 _ _ _ _ _ _
        | exact steelyardref01_Trim.mono _ _
        | exact LeO.refl _
        | exact LeO.none _
        | refine LeO.ite ?_ ?_
        | refine LeO.bind ?_ (fun _ => ?_)
       | exact LeO.none _ | refine LeO.ite ?_ ?_ | refine LeO.bind ?_ (fun _ => ?_)
    · intro y0 y1 y2 y3 y4 y5
      unfold steelyardref01_Add.j1
      repeat' first
       | with_reducible first
        | exact ih0 _ _ _ _ _
        | exact ih1 _ _ _ _ _ _
        | exact steelyardref01_Trim.mono _ _
        | exact LeO.refl _
        | exact LeO.none _
        | refine LeO.ite ?_ ?_
        | refine LeO.bind ?_ (fun _ => ?_)
       | exact LeO.none _ | refine LeO.ite ?_ ?_ | refine LeO.bind ?_ (fun _ => ?_)
theorem steelyardref01_Add.mono : ∀ a0 a1 k, LeO (steelyardref01_Add.f k a0 a1) (steelyardref01_Add.f (k + 1) a0 a1) := by
  intro a0 a1 k
  obtain ⟨ih0, ih1⟩ := steelyardref01_Add.mono_l k
  unfold steelyardref01_Add.f
  repeat' first
   | with_reducible first
    | exact ih0 _ _ _ _ _
    | exact ih1 _ _ _ _ _ _
    | exact steelyardref01_Trim.mono _ _
    | exact LeO.refl _
    | exact LeO.none _
    | refine LeO.ite ?_ ?_
    | refine LeO.bind ?_ (fun _ => ?_)
   | exact LeO.none _ | refine LeO.ite ?_ ?_ | refine LeO.bind ?_ (fun _ => ?_)
end Go.Proofs.YtjgmmaeafodpmaaGreatDoor.P
set_option linter.unusedVariables false
set_option linter.unusedSimpArgs false
namespace Go.Proofs.YtjgmmaeafodpmaaGreatDoor.P
open Go.RowKit Go.Proofs.YtjgmmaeafodpmaaGreatDoorW.PrintWords Go.Proofs.YtjgmmaeafodpmaaGreatDoorW.PrintLast Go.Proofs.YtjgmmaeafodpmaaGreatDoorW.PrintMore
def steelyardref02_Up.l0 : Nat → List Int → Int → List Int → Int → Int → Option (List Int)
  | 0, _, _, _, _, _ => none
  | k + 1, x0, x1, x5, x6, x7 => if x7 < (x0.length : Int) then (if 0 ≤ x7 then (if 0 ≤ (IntKind.u64.wrap (Int.tmod x1 32)) then (if x5.length < 35184372088832 then (steelyardref02_Up.l0 k x0 x1 (x5 ++ [(Go.bits .or .u64 x6 (shl .u64 (IntKind.u64.wrap (rd x0 x7)) (IntKind.u64.wrap (Int.tmod x1 32)))) % 4294967296]) ((Go.bits .or .u64 x6 (shl .u64 (IntKind.u64.wrap (rd x0 x7)) (IntKind.u64.wrap (Int.tmod x1 32)))) / 4294967296) (wrap64 (x7 + 1))) else (none)) else (none)) else (none)) else (if x5.length < 35184372088832 then ((steelyardref01_Trim.f k (x5 ++ [(x6) % 4294967296])).bind fun t696 => (some t696)) else (none))
def steelyardref02_Up.f (k : Nat) (l0 : List Int) (a1 : Int) : Option (List Int) := if 0 ≤ (wrap64 (Int.tdiv a1 32)) then (if (wrap64 (Int.tdiv a1 32)) ≤ (wrap64 ((wrap64 ((wrap64 (Int.tdiv a1 32)) + (l0.length : Int))) + 1)) then (if (wrap64 ((wrap64 ((wrap64 (Int.tdiv a1 32)) + (l0.length : Int))) + 1) : Int).toNat ≤ 70368744177664 then (steelyardref02_Up.l0 k l0 a1 (List.replicate (wrap64 (Int.tdiv a1 32) : Int).toNat 0) 0 0) else (none)) else (none)) else (none)
theorem steelyardref02_Up.mono_l : ∀ k, (∀ y0 y1 y2 y3 y4, LeO (steelyardref02_Up.l0 k y0 y1 y2 y3 y4) (steelyardref02_Up.l0 (k + 1) y0 y1 y2 y3 y4))
  | 0 => fun _ _ _ _ _ r h => by simp [steelyardref02_Up.l0] at h
  | k + 1 => by
    have ih0 := steelyardref02_Up.mono_l k
    · intro y0 y1 y2 y3 y4
      unfold steelyardref02_Up.l0
      repeat' first
       | with_reducible first
        | exact ih0 _ _ _ _ _
        | exact steelyardref01_Trim.mono _ _
        | exact LeO.refl _
        | exact LeO.none _
        | refine LeO.ite ?_ ?_
        | refine LeO.bind ?_ (fun _ => ?_)
       | exact LeO.none _ | refine LeO.ite ?_ ?_ | refine LeO.bind ?_ (fun _ => ?_)
theorem steelyardref02_Up.mono : ∀ a0 a1 k, LeO (steelyardref02_Up.f k a0 a1) (steelyardref02_Up.f (k + 1) a0 a1) := by
  intro a0 a1 k
  have ih0 := steelyardref02_Up.mono_l k
  unfold steelyardref02_Up.f
  repeat' first
   | with_reducible first
    | exact ih0 _ _ _ _ _
    | exact steelyardref01_Trim.mono _ _
    | exact LeO.refl _
    | exact LeO.none _
    | refine LeO.ite ?_ ?_
    | refine LeO.bind ?_ (fun _ => ?_)
   | exact LeO.none _ | refine LeO.ite ?_ ?_ | refine LeO.bind ?_ (fun _ => ?_)
def steelyardref02_Down.l0 : Nat → List Int → Int → List Int → Int → Option (List Int)
  | 0, _, _, _, _ => none
  | k + 1, x0, x1, x5, x6 => if x6 < (x0.length : Int) then (if 0 ≤ x6 then (if (wrap64 (x6 + 1)) < (x0.length : Int) then (if 0 ≤ (wrap64 (x6 + 1)) then (if 0 ≤ (IntKind.u64.wrap (Int.tmod x1 32)) then (if x5.length < 35184372088832 then (steelyardref02_Down.l0 k x0 x1 (x5 ++ [(shr .u64 (Go.bits .or .u64 (IntKind.u64.wrap (rd x0 x6)) (IntKind.u64.wrap ((IntKind.u64.wrap (rd x0 (wrap64 (x6 + 1)))) * 4294967296))) (IntKind.u64.wrap (Int.tmod x1 32))) % 4294967296]) (wrap64 (x6 + 1))) else (none)) else (none)) else (none)) else (if 0 ≤ (IntKind.u64.wrap (Int.tmod x1 32)) then (if x5.length < 35184372088832 then (steelyardref02_Down.l0 k x0 x1 (x5 ++ [(shr .u64 (IntKind.u64.wrap (rd x0 x6)) (IntKind.u64.wrap (Int.tmod x1 32))) % 4294967296]) (wrap64 (x6 + 1))) else (none)) else (none))) else (none)) else ((steelyardref01_Trim.f k x5).bind fun t720 => (some t720))
def steelyardref02_Down.f (k : Nat) (l0 : List Int) (a1 : Int) : Option (List Int) := steelyardref02_Down.l0 k l0 a1 ([] : List Int) (wrap64 (Int.tdiv a1 32))
theorem steelyardref02_Down.mono_l : ∀ k, (∀ y0 y1 y2 y3, LeO (steelyardref02_Down.l0 k y0 y1 y2 y3) (steelyardref02_Down.l0 (k + 1) y0 y1 y2 y3))
  | 0 => fun _ _ _ _ r h => by simp [steelyardref02_Down.l0] at h
  | k + 1 => by
    have ih0 := steelyardref02_Down.mono_l k
    · intro y0 y1 y2 y3
      unfold steelyardref02_Down.l0
      repeat' first
       | with_reducible first
        | exact ih0 _ _ _ _
        | exact steelyardref01_Trim.mono _ _
        | exact LeO.refl _
        | exact LeO.none _
        | refine LeO.ite ?_ ?_
        | refine LeO.bind ?_ (fun _ => ?_)
       | exact LeO.none _ | refine LeO.ite ?_ ?_ | refine LeO.bind ?_ (fun _ => ?_)
theorem steelyardref02_Down.mono : ∀ a0 a1 k, LeO (steelyardref02_Down.f k a0 a1) (steelyardref02_Down.f (k + 1) a0 a1) := by
  intro a0 a1 k
  have ih0 := steelyardref02_Down.mono_l k
  unfold steelyardref02_Down.f
  repeat' first
   | with_reducible first
    | exact ih0 _ _ _ _
    | exact steelyardref01_Trim.mono _ _
    | exact LeO.refl _
    | exact LeO.none _
    | refine LeO.ite ?_ ?_
    | refine LeO.bind ?_ (fun _ => ?_)
   | exact LeO.none _ | refine LeO.ite ?_ ?_ | refine LeO.bind ?_ (fun _ => ?_)
def steelyardref02_Small.l0 : Nat → List Int → Int → List Int → Int → Int → Option (List Int)
  | 0, _, _, _, _, _ => none
  | k + 1, x0, x1, x5, x6, x7 => if x7 < (x0.length : Int) then (if 0 ≤ x7 then (if x5.length < 35184372088832 then (steelyardref02_Small.l0 k x0 x1 (x5 ++ [(IntKind.u64.wrap (x6 + (IntKind.u64.wrap ((IntKind.u64.wrap (rd x0 x7)) * (IntKind.u64.wrap (x1)))))) % 4294967296]) ((IntKind.u64.wrap (x6 + (IntKind.u64.wrap ((IntKind.u64.wrap (rd x0 x7)) * (IntKind.u64.wrap (x1)))))) / 4294967296) (wrap64 (x7 + 1))) else (none)) else (none)) else (if x5.length < 35184372088832 then ((steelyardref01_Trim.f k (x5 ++ [(x6) % 4294967296])).bind fun t790 => (some t790)) else (none))
def steelyardref02_Small.f (k : Nat) (l0 : List Int) (a1 : Int) : Option (List Int) := steelyardref02_Small.l0 k l0 a1 ([] : List Int) 0 0
theorem steelyardref02_Small.mono_l : ∀ k, (∀ y0 y1 y2 y3 y4, LeO (steelyardref02_Small.l0 k y0 y1 y2 y3 y4) (steelyardref02_Small.l0 (k + 1) y0 y1 y2 y3 y4))
  | 0 => fun _ _ _ _ _ r h => by simp [steelyardref02_Small.l0] at h
  | k + 1 => by
    have ih0 := steelyardref02_Small.mono_l k
    · intro y0 y1 y2 y3 y4
      unfold steelyardref02_Small.l0
      repeat' first
       | with_reducible first
        | exact ih0 _ _ _ _ _
        | exact steelyardref01_Trim.mono _ _
        | exact LeO.refl _
        | exact LeO.none _
        | refine LeO.ite ?_ ?_
        | refine LeO.bind ?_ (fun _ => ?_)
       | exact LeO.none _ | refine LeO.ite ?_ ?_ | refine LeO.bind ?_ (fun _ => ?_)
theorem steelyardref02_Small.mono : ∀ a0 a1 k, LeO (steelyardref02_Small.f k a0 a1) (steelyardref02_Small.f (k + 1) a0 a1) := by
  intro a0 a1 k
  have ih0 := steelyardref02_Small.mono_l k
  unfold steelyardref02_Small.f
  repeat' first
   | with_reducible first
    | exact ih0 _ _ _ _ _
    | exact steelyardref01_Trim.mono _ _
    | exact LeO.refl _
    | exact LeO.none _
    | refine LeO.ite ?_ ?_
    | refine LeO.bind ?_ (fun _ => ?_)
   | exact LeO.none _ | refine LeO.ite ?_ ?_ | refine LeO.bind ?_ (fun _ => ?_)
def steelyardref02_Of.l0 : Nat → List Int → List Int → List Int → Int → Option (List Int)
  | 0, _, _, _, _ => none
  | k + 1, x0, x1, x5, x6 => if x6 < (x1.length : Int) then (if 0 ≤ x6 then ((steelyardref02_Small.f k x0 (rd x1 x6)).bind fun t794 => ((steelyardref02_Up.f k t794 (wrap64 (32 * x6))).bind fun t797 => ((steelyardref01_Add.f k x5 t797).bind fun t800 => (steelyardref02_Of.l0 k x0 x1 t800 (wrap64 (x6 + 1)))))) else (none)) else ((steelyardref01_Trim.f k x5).bind fun t803 => (some t803))
def steelyardref02_Of.f (k : Nat) (l0 : List Int) (l1 : List Int) : Option (List Int) := steelyardref02_Of.l0 k l0 l1 ([] : List Int) 0
theorem steelyardref02_Of.mono_l : ∀ k, (∀ y0 y1 y2 y3, LeO (steelyardref02_Of.l0 k y0 y1 y2 y3) (steelyardref02_Of.l0 (k + 1) y0 y1 y2 y3))
  | 0 => fun _ _ _ _ r h => by simp [steelyardref02_Of.l0] at h
  | k + 1 => by
    have ih0 := steelyardref02_Of.mono_l k
    · intro y0 y1 y2 y3
      unfold steelyardref02_Of.l0
      repeat' first
       | with_reducible first
        | exact ih0 _ _ _ _
        | exact steelyardref01_Add.mono _ _ _
        | exact steelyardref01_Trim.mono _ _
        | exact steelyardref02_Small.mono _ _ _
        | exact steelyardref02_Up.mono _ _ _
        | exact LeO.refl _
        | exact LeO.none _
        | refine LeO.ite ?_ ?_
        | refine LeO.bind ?_ (fun _ => ?_)
       | exact LeO.none _ | refine LeO.ite ?_ ?_ | refine LeO.bind ?_ (fun _ => ?_)
theorem steelyardref02_Of.mono : ∀ a0 a1 k, LeO (steelyardref02_Of.f k a0 a1) (steelyardref02_Of.f (k + 1) a0 a1) := by
  intro a0 a1 k
  have ih0 := steelyardref02_Of.mono_l k
  unfold steelyardref02_Of.f
  repeat' first
   | with_reducible first
    | exact ih0 _ _ _ _
    | exact steelyardref01_Add.mono _ _ _
    | exact steelyardref01_Trim.mono _ _
    | exact steelyardref02_Small.mono _ _ _
    | exact steelyardref02_Up.mono _ _ _
    | exact LeO.refl _
    | exact LeO.none _
    | refine LeO.ite ?_ ?_
    | refine LeO.bind ?_ (fun _ => ?_)
   | exact LeO.none _ | refine LeO.ite ?_ ?_ | refine LeO.bind ?_ (fun _ => ?_)
end Go.Proofs.YtjgmmaeafodpmaaGreatDoor.P
set_option linter.unusedVariables false
set_option linter.unusedSimpArgs false
namespace Go.Proofs.YtjgmmaeafodpmaaGreatDoor.P
open Go.RowKit Go.Proofs.YtjgmmaeafodpmaaGreatDoorW.PrintWords Go.Proofs.YtjgmmaeafodpmaaGreatDoorW.PrintLast Go.Proofs.YtjgmmaeafodpmaaGreatDoorW.PrintMore
def steelyardref06_Make.f (k : Nat) (a0 : Bool) (l1 : List Int) : Option (Bool × List Int) := (steelyardref01_Trim.f k l1).bind fun t648 => (if a0 = true then (some (decide ((t648.length : Int) > 0), t648)) else (some (false, t648)))
theorem steelyardref06_Make.mono : ∀ a0 a1 k, LeO (steelyardref06_Make.f k a0 a1) (steelyardref06_Make.f (k + 1) a0 a1) := by
  intro a0 a1 k
  unfold steelyardref06_Make.f
  repeat' first
   | with_reducible first
    | exact steelyardref01_Trim.mono _ _
    | exact LeO.refl _
    | exact LeO.none _
    | refine LeO.ite ?_ ?_
    | refine LeO.bind ?_ (fun _ => ?_)
   | exact LeO.none _ | refine LeO.ite ?_ ?_ | refine LeO.bind ?_ (fun _ => ?_)
def steelyardref06_Of.f (k : Nat) (a0 : Int) : Option (Bool × List Int) := if a0 < 0 then ((steelyardref01_Of.f k (IntKind.u64.wrap ((IntKind.u64.wrap (wrap64 (-(wrap64 (a0 + 1))))) + 1))).bind fun t658 => ((steelyardref06_Make.f k true t658).bind fun bt661 => (some (bt661.1, bt661.2)))) else ((steelyardref01_Of.f k (IntKind.u64.wrap (a0))).bind fun t665 => ((steelyardref06_Make.f k false t665).bind fun bt668 => (some (bt668.1, bt668.2))))
theorem steelyardref06_Of.mono : ∀ a0 k, LeO (steelyardref06_Of.f k a0) (steelyardref06_Of.f (k + 1) a0) := by
  intro a0 k
  unfold steelyardref06_Of.f
  repeat' first
   | with_reducible first
    | exact steelyardref01_Of.mono _ _
    | exact steelyardref06_Make.mono _ _ _
    | exact LeO.refl _
    | exact LeO.none _
    | refine LeO.ite ?_ ?_
    | refine LeO.bind ?_ (fun _ => ?_)
   | exact LeO.none _ | refine LeO.ite ?_ ?_ | refine LeO.bind ?_ (fun _ => ?_)
def steelyardref06_Trim.f (k : Nat) (a0_0 : Bool) (l0_1 : List Int) : Option (Bool × List Int) := (steelyardref06_Make.f k a0_0 l0_1).bind fun bt808 => (some (bt808.1, bt808.2))
theorem steelyardref06_Trim.mono : ∀ a0 a1 k, LeO (steelyardref06_Trim.f k a0 a1) (steelyardref06_Trim.f (k + 1) a0 a1) := by
  intro a0 a1 k
  unfold steelyardref06_Trim.f
  repeat' first
   | with_reducible first
    | exact steelyardref06_Make.mono _ _ _
    | exact LeO.refl _
    | exact LeO.none _
    | refine LeO.ite ?_ ?_
    | refine LeO.bind ?_ (fun _ => ?_)
   | exact LeO.none _ | refine LeO.ite ?_ ?_ | refine LeO.bind ?_ (fun _ => ?_)
def steelyardref06_Mul.f (k : Nat) (a0_0 : Bool) (l0_1 : List Int) (a1_0 : Bool) (l1_1 : List Int) : Option (Bool × List Int) := (steelyardref06_Trim.f k a0_0 l0_1).bind fun bt843 => ((steelyardref06_Trim.f k a1_0 l1_1).bind fun bt847 => ((steelyardref02_Of.f k l0_1 l1_1).bind fun t851 => ((steelyardref06_Make.f k (bt843.1 != bt847.1) t851).bind fun bt854 => (some (bt854.1, bt854.2)))))
theorem steelyardref06_Mul.mono : ∀ a0 a1 a2 a3 k, LeO (steelyardref06_Mul.f k a0 a1 a2 a3) (steelyardref06_Mul.f (k + 1) a0 a1 a2 a3) := by
  intro a0 a1 a2 a3 k
  unfold steelyardref06_Mul.f
  repeat' first
   | with_reducible first
    | exact steelyardref02_Of.mono _ _ _
    | exact steelyardref06_Make.mono _ _ _
    | exact steelyardref06_Trim.mono _ _ _
    | exact LeO.refl _
    | exact LeO.none _
    | refine LeO.ite ?_ ?_
    | refine LeO.bind ?_ (fun _ => ?_)
   | exact LeO.none _ | refine LeO.ite ?_ ?_ | refine LeO.bind ?_ (fun _ => ?_)
end Go.Proofs.YtjgmmaeafodpmaaGreatDoor.P
set_option linter.unusedVariables false
set_option linter.unusedSimpArgs false
namespace Go.Proofs.YtjgmmaeafodpmaaGreatDoor.P
open Go.RowKit Go.Proofs.YtjgmmaeafodpmaaGreatDoorW.PrintWords Go.Proofs.YtjgmmaeafodpmaaGreatDoorW.PrintLast Go.Proofs.YtjgmmaeafodpmaaGreatDoorW.PrintMore
def steelyardref03_Rem.l0 : Nat → List Int → List Int → List Int → Int → Option (List Int × List Int × Bool)
  | 0, _, _, _, _ => none
  | k + 1, x5, x7, x8, x9 => if x9 ≥ 0 then ((steelyardref01_Cmp.f k x5 x8).bind fun t739 => (if t739 ≥ 0 then ((steelyardref01_Sub.f k x5 x8).bind fun t740 => (if 0 ≤ (wrap64 (Int.tdiv x9 32)) then (if (wrap64 (Int.tdiv x9 32)) < (x7.length : Int) then (if 0 ≤ (IntKind.u64.wrap (Int.tmod x9 32)) then ((steelyardref02_Down.f k x8 1).bind fun t745 => (steelyardref03_Rem.l0 k t740 (x7.set ((wrap64 (Int.tdiv x9 32)) : Int).toNat (Go.bits .or .u32 (rd x7 (wrap64 (Int.tdiv x9 32))) (shl .u32 1 (IntKind.u64.wrap (Int.tmod x9 32))))) t745 (wrap64 (x9 - 1)))) else (none)) else (none)) else (none))) else ((steelyardref02_Down.f k x8 1).bind fun t748 => (steelyardref03_Rem.l0 k x5 x7 t748 (wrap64 (x9 - 1)))))) else ((steelyardref01_Trim.f k x7).bind fun t736 => (some (t736, x5, true)))
def steelyardref03_Rem.f (k : Nat) (l0 : List Int) (l1 : List Int) : Option (List Int × List Int × Bool) := (steelyardref01_Bits.f k l1).bind fun t724 => (if t724 = 0 then (some (([] : List Int), ([] : List Int), false)) else ((steelyardref01_Trim.f k l0).bind fun t725 => ((steelyardref01_Bits.f k l0).bind fun t728 => ((steelyardref01_Bits.f k l1).bind fun t729 => (if 0 ≤ (wrap64 ((wrap64 (Int.tdiv (mx 0 (wrap64 (t728 - t729))) 32)) + 1)) then (if (wrap64 ((wrap64 (Int.tdiv (mx 0 (wrap64 (t728 - t729))) 32)) + 1) : Int).toNat ≤ 70368744177664 then ((steelyardref02_Up.f k l1 (mx 0 (wrap64 (t728 - t729)))).bind fun t733 => (steelyardref03_Rem.l0 k t725 (List.replicate (wrap64 ((wrap64 (Int.tdiv (mx 0 (wrap64 (t728 - t729))) 32)) + 1) : Int).toNat 0) t733 (mx 0 (wrap64 (t728 - t729))))) else (none)) else (none))))))
theorem steelyardref03_Rem.mono_l : ∀ k, (∀ y0 y1 y2 y3, LeO (steelyardref03_Rem.l0 k y0 y1 y2 y3) (steelyardref03_Rem.l0 (k + 1) y0 y1 y2 y3))
  | 0 => fun _ _ _ _ r h => by simp [steelyardref03_Rem.l0] at h
  | k + 1 => by
    have ih0 := steelyardref03_Rem.mono_l k
    · intro y0 y1 y2 y3
      unfold steelyardref03_Rem.l0
      repeat' first
       | with_reducible first
        | exact ih0 _ _ _ _
        | exact steelyardref01_Bits.mono _ _
        | exact steelyardref01_Cmp.mono _ _ _
        | exact steelyardref01_Sub.mono _ _ _
        | exact steelyardref01_Trim.mono _ _
        | exact steelyardref02_Down.mono _ _ _
        | exact steelyardref02_Up.mono _ _ _
        | exact LeO.refl _
        | exact LeO.none _
        | refine LeO.ite ?_ ?_
        | refine LeO.bind ?_ (fun _ => ?_)
       | exact LeO.none _ | refine LeO.ite ?_ ?_ | refine LeO.bind ?_ (fun _ => ?_)
theorem steelyardref03_Rem.mono : ∀ a0 a1 k, LeO (steelyardref03_Rem.f k a0 a1) (steelyardref03_Rem.f (k + 1) a0 a1) := by
  intro a0 a1 k
  have ih0 := steelyardref03_Rem.mono_l k
  unfold steelyardref03_Rem.f
  repeat' first
   | with_reducible first
    | exact ih0 _ _ _ _
    | exact steelyardref01_Bits.mono _ _
    | exact steelyardref01_Cmp.mono _ _ _
    | exact steelyardref01_Sub.mono _ _ _
    | exact steelyardref01_Trim.mono _ _
    | exact steelyardref02_Down.mono _ _ _
    | exact steelyardref02_Up.mono _ _ _
    | exact LeO.refl _
    | exact LeO.none _
    | refine LeO.ite ?_ ?_
    | refine LeO.bind ?_ (fun _ => ?_)
   | exact LeO.none _ | refine LeO.ite ?_ ?_ | refine LeO.bind ?_ (fun _ => ?_)
def steelyardref03_Gcd.l0 : Nat → List Int → List Int → Option (List Int)
  | 0, _, _ => none
  | k + 1, x5, x6 => if (x6.length : Int) > 0 then ((steelyardref03_Rem.f k x5 x6).bind fun bt757 => (steelyardref03_Gcd.l0 k x6 bt757.2.1)) else (some x5)
def steelyardref03_Gcd.f (k : Nat) (l0 : List Int) (l1 : List Int) : Option (List Int) := (steelyardref01_Trim.f k l0).bind fun t751 => ((steelyardref01_Trim.f k l1).bind fun t754 => (steelyardref03_Gcd.l0 k t751 t754))
theorem steelyardref03_Gcd.mono_l : ∀ k, (∀ y0 y1, LeO (steelyardref03_Gcd.l0 k y0 y1) (steelyardref03_Gcd.l0 (k + 1) y0 y1))
  | 0 => fun _ _ r h => by simp [steelyardref03_Gcd.l0] at h
  | k + 1 => by
    have ih0 := steelyardref03_Gcd.mono_l k
    · intro y0 y1
      unfold steelyardref03_Gcd.l0
      repeat' first
       | with_reducible first
        | exact ih0 _ _
        | exact steelyardref01_Trim.mono _ _
        | exact steelyardref03_Rem.mono _ _ _
        | exact LeO.refl _
        | exact LeO.none _
        | refine LeO.ite ?_ ?_
        | refine LeO.bind ?_ (fun _ => ?_)
       | exact LeO.none _ | refine LeO.ite ?_ ?_ | refine LeO.bind ?_ (fun _ => ?_)
theorem steelyardref03_Gcd.mono : ∀ a0 a1 k, LeO (steelyardref03_Gcd.f k a0 a1) (steelyardref03_Gcd.f (k + 1) a0 a1) := by
  intro a0 a1 k
  have ih0 := steelyardref03_Gcd.mono_l k
  unfold steelyardref03_Gcd.f
  repeat' first
   | with_reducible first
    | exact ih0 _ _
    | exact steelyardref01_Trim.mono _ _
    | exact steelyardref03_Rem.mono _ _ _
    | exact LeO.refl _
    | exact LeO.none _
    | refine LeO.ite ?_ ?_
    | refine LeO.bind ?_ (fun _ => ?_)
   | exact LeO.none _ | refine LeO.ite ?_ ?_ | refine LeO.bind ?_ (fun _ => ?_)
end Go.Proofs.YtjgmmaeafodpmaaGreatDoor.P
set_option linter.unusedVariables false
set_option linter.unusedSimpArgs false
namespace Go.Proofs.YtjgmmaeafodpmaaGreatDoor.P
open Go.RowKit Go.Proofs.YtjgmmaeafodpmaaGreatDoorW.PrintWords Go.Proofs.YtjgmmaeafodpmaaGreatDoorW.PrintLast Go.Proofs.YtjgmmaeafodpmaaGreatDoorW.PrintMore
def steelyardref07_Whole.f (k : Nat) (a0 : Int) : Option (Bool × List Int × List Int) := (steelyardref06_Of.f k a0).bind fun bt673 => (some (bt673.1, bt673.2, (([1] : List Int))))
theorem steelyardref07_Whole.mono : ∀ a0 k, LeO (steelyardref07_Whole.f k a0) (steelyardref07_Whole.f (k + 1) a0) := by
  intro a0 k
  unfold steelyardref07_Whole.f
  repeat' first
   | with_reducible first
    | exact steelyardref06_Of.mono _ _
    | exact LeO.refl _
    | exact LeO.none _
    | refine LeO.ite ?_ ?_
    | refine LeO.bind ?_ (fun _ => ?_)
   | exact LeO.none _ | refine LeO.ite ?_ ?_ | refine LeO.bind ?_ (fun _ => ?_)
def steelyardref07_trimmed.f (l0 : List Int) : Option (Bool) := if (l0.length : Int) = 0 then (some true) else (if 0 ≤ (wrap64 ((l0.length : Int) - 1)) then (if (wrap64 ((l0.length : Int) - 1)) < (l0.length : Int) then (some ((rd l0 (wrap64 ((l0.length : Int) - 1))) != 0)) else (none)) else (none))
def steelyardref07_Good.f (k : Nat) (a0_0 : Bool) (l0_1 : List Int) (l0_2 : List Int) : Option (Bool) := (steelyardref07_trimmed.f l0_1).bind fun t765 => (if t765 = true then ((steelyardref07_trimmed.f l0_2).bind fun t766 => (if t766 = true then (if (l0_2.length : Int) = 0 then (some false) else (if a0_0 = true then (if (l0_1.length : Int) = 0 then (some false) else (if (l0_1.length : Int) > 64 then (some false) else (if (l0_2.length : Int) > 64 then (some false) else ((steelyardref03_Gcd.f k l0_1 l0_2).bind fun t767 => (if (t767.length : Int) = 1 then (if 0 < (t767.length : Int) then (some ((rd t767 0) == 1)) else (none)) else (some false)))))) else (if (l0_1.length : Int) > 64 then (some false) else (if (l0_2.length : Int) > 64 then (some false) else ((steelyardref03_Gcd.f k l0_1 l0_2).bind fun t771 => (if (t771.length : Int) = 1 then (if 0 < (t771.length : Int) then (some ((rd t771 0) == 1)) else (none)) else (some false))))))) else (some false))) else (some false))
theorem steelyardref07_Good.mono : ∀ a0 a1 a2 k, LeO (steelyardref07_Good.f k a0 a1 a2) (steelyardref07_Good.f (k + 1) a0 a1 a2) := by
  intro a0 a1 a2 k
  unfold steelyardref07_Good.f
  repeat' first
   | with_reducible first
    | exact steelyardref03_Gcd.mono _ _ _
    | exact LeO.refl _
    | exact LeO.none _
    | refine LeO.ite ?_ ?_
    | refine LeO.bind ?_ (fun _ => ?_)
   | exact LeO.none _ | refine LeO.ite ?_ ?_ | refine LeO.bind ?_ (fun _ => ?_)
def steelyardref07_Wide.f (k : Nat) (a0_0 : Bool) (l0_1 : List Int) (l1 : List Int) : Option (Bool × List Int × List Int) := (steelyardref06_Trim.f k a0_0 l0_1).bind fun bt814 => ((steelyardref03_Gcd.f k bt814.2 l1).bind fun t819 => ((steelyardref03_Rem.f k bt814.2 t819).bind fun bt822 => ((steelyardref06_Make.f k bt814.1 bt822.1).bind fun bt829 => ((steelyardref03_Rem.f k l1 t819).bind fun bt833 => (some (bt829.1, bt829.2, bt833.1))))))
theorem steelyardref07_Wide.mono : ∀ a0 a1 a2 k, LeO (steelyardref07_Wide.f k a0 a1 a2) (steelyardref07_Wide.f (k + 1) a0 a1 a2) := by
  intro a0 a1 a2 k
  unfold steelyardref07_Wide.f
  repeat' first
   | with_reducible first
    | exact steelyardref03_Gcd.mono _ _ _
    | exact steelyardref03_Rem.mono _ _ _
    | exact steelyardref06_Make.mono _ _ _
    | exact steelyardref06_Trim.mono _ _ _
    | exact LeO.refl _
    | exact LeO.none _
    | refine LeO.ite ?_ ?_
    | refine LeO.bind ?_ (fun _ => ?_)
   | exact LeO.none _ | refine LeO.ite ?_ ?_ | refine LeO.bind ?_ (fun _ => ?_)
def steelyardref07_Times.f (k : Nat) (a0_0 : Bool) (l0_1 : List Int) (l0_2 : List Int) (a1_0 : Bool) (l1_1 : List Int) (l1_2 : List Int) : Option (Bool × List Int × List Int) := (steelyardref06_Mul.f k a0_0 l0_1 a1_0 l1_1).bind fun bt861 => ((steelyardref02_Of.f k l0_2 l1_2).bind fun t865 => ((steelyardref07_Wide.f k bt861.1 bt861.2 t865).bind fun bt868 => (some (bt868.1, bt868.2.1, bt868.2.2))))
theorem steelyardref07_Times.mono : ∀ a0 a1 a2 a3 a4 a5 k, LeO (steelyardref07_Times.f k a0 a1 a2 a3 a4 a5) (steelyardref07_Times.f (k + 1) a0 a1 a2 a3 a4 a5) := by
  intro a0 a1 a2 a3 a4 a5 k
  unfold steelyardref07_Times.f
  repeat' first
   | with_reducible first
    | exact steelyardref02_Of.mono _ _ _
    | exact steelyardref06_Mul.mono _ _ _ _ _
    | exact steelyardref07_Wide.mono _ _ _ _
    | exact LeO.refl _
    | exact LeO.none _
    | refine LeO.ite ?_ ?_
    | refine LeO.bind ?_ (fun _ => ?_)
   | exact LeO.none _ | refine LeO.ite ?_ ?_ | refine LeO.bind ?_ (fun _ => ?_)
def steelyardref07_Limit.f (a0_0 : Bool) (l0_1 : List Int) (l0_2 : List Int) : Option (Bool × List Int × List Int × Int) := if (l0_1.length : Int) > 64 then (some (false, ([] : List Int), ([] : List Int), 2)) else (if (l0_2.length : Int) > 64 then (some (false, ([] : List Int), ([] : List Int), 2)) else (some (a0_0, l0_1, l0_2, 0)))
def steelyardref07_Div.j0 : Nat → Bool → Bool → List Int → List Int → Bool → List Int → List Int → Option (Bool × List Int × List Int × Int)
  | 0, _, _, _, _, _, _, _ => none
  | k + 1, x12, x878000, x878001, x878002, x879000, x879001, x879002 => if x12 = true then (some (false, ([] : List Int), ([] : List Int), 1)) else (if (x879001.length : Int) = 0 then (some (false, ([] : List Int), ([] : List Int), 3)) else ((steelyardref06_Make.f k x879000 x879002).bind fun bt882 => ((steelyardref07_Times.f k x878000 x878001 x878002 bt882.1 bt882.2 x879001).bind fun bt886 => ((steelyardref07_Limit.f bt886.1 bt886.2.1 bt886.2.2).bind fun bt893 => (some (bt893.1, bt893.2.1, bt893.2.2.1, bt893.2.2.2))))))
def steelyardref07_Div.f (k : Nat) (a0_0 : Bool) (l0_1 : List Int) (l0_2 : List Int) (a1_0 : Bool) (l1_1 : List Int) (l1_2 : List Int) : Option (Bool × List Int × List Int × Int) := (steelyardref07_Good.f k a0_0 l0_1 l0_2).bind fun t880 => (if t880 = true then ((steelyardref07_Good.f k a1_0 l1_1 l1_2).bind fun t881 => (steelyardref07_Div.j0 k (!t881) a0_0 l0_1 l0_2 a1_0 l1_1 l1_2)) else (steelyardref07_Div.j0 k true a0_0 l0_1 l0_2 a1_0 l1_1 l1_2))
theorem steelyardref07_Div.mono_l : ∀ k, (∀ y0 y1 y2 y3 y4 y5 y6, LeO (steelyardref07_Div.j0 k y0 y1 y2 y3 y4 y5 y6) (steelyardref07_Div.j0 (k + 1) y0 y1 y2 y3 y4 y5 y6))
  | 0 => fun _ _ _ _ _ _ _ r h => by simp [steelyardref07_Div.j0] at h
  | k + 1 => by
    have ih0 := steelyardref07_Div.mono_l k
    · intro y0 y1 y2 y3 y4 y5 y6
      unfold steelyardref07_Div.j0
      repeat' first
       | with_reducible first
        | exact ih0 _ _ _ _ _ _ _
        | exact steelyardref06_Make.mono _ _ _
        | exact steelyardref07_Good.mono _ _ _ _
        | exact steelyardref07_Times.mono _ _ _ _ _ _ _
        | exact LeO.refl _
        | exact LeO.none _
        | refine LeO.ite ?_ ?_
        | refine LeO.bind ?_ (fun _ => ?_)
       | exact LeO.none _ | refine LeO.ite ?_ ?_ | refine LeO.bind ?_ (fun _ => ?_)
theorem steelyardref07_Div.mono : ∀ a0 a1 a2 a3 a4 a5 k, LeO (steelyardref07_Div.f k a0 a1 a2 a3 a4 a5) (steelyardref07_Div.f (k + 1) a0 a1 a2 a3 a4 a5) := by
  intro a0 a1 a2 a3 a4 a5 k
  have ih0 := steelyardref07_Div.mono_l k
  unfold steelyardref07_Div.f
  repeat' first
   | with_reducible first
    | exact ih0 _ _ _ _ _ _ _
    | exact steelyardref06_Make.mono _ _ _
    | exact steelyardref07_Good.mono _ _ _ _
    | exact steelyardref07_Times.mono _ _ _ _ _ _ _
    | exact LeO.refl _
    | exact LeO.none _
    | refine LeO.ite ?_ ?_
    | refine LeO.bind ?_ (fun _ => ?_)
   | exact LeO.none _ | refine LeO.ite ?_ ?_ | refine LeO.bind ?_ (fun _ => ?_)
end Go.Proofs.YtjgmmaeafodpmaaGreatDoor.P
set_option linter.unusedVariables false
set_option linter.unusedSimpArgs false
namespace Go.Proofs.YtjgmmaeafodpmaaGreatDoor.P
open Go.RowKit Go.Proofs.YtjgmmaeafodpmaaGreatDoorW.PrintWords Go.Proofs.YtjgmmaeafodpmaaGreatDoorW.PrintLast Go.Proofs.YtjgmmaeafodpmaaGreatDoorW.PrintMore
def steelyardlaw07_By.f (k : Nat) (a0 : Int) (a1 : Int) : Option (Bool × List Int × List Int) := (steelyardref07_Whole.f k a0).bind fun bt902 => ((steelyardref07_Whole.f k a1).bind fun bt909 => ((steelyardref07_Div.f k bt902.1 bt902.2.1 bt902.2.2 bt909.1 bt909.2.1 bt909.2.2).bind fun bt916 => (some (bt916.1, bt916.2.1, bt916.2.2.1))))
theorem steelyardlaw07_By.mono : ∀ a0 a1 k, LeO (steelyardlaw07_By.f k a0 a1) (steelyardlaw07_By.f (k + 1) a0 a1) := by
  intro a0 a1 k
  unfold steelyardlaw07_By.f
  repeat' first
   | with_reducible first
    | exact steelyardref07_Div.mono _ _ _ _ _ _ _
    | exact steelyardref07_Whole.mono _ _
    | exact LeO.refl _
    | exact LeO.none _
    | refine LeO.ite ?_ ?_
    | refine LeO.bind ?_ (fun _ => ?_)
   | exact LeO.none _ | refine LeO.ite ?_ ?_ | refine LeO.bind ?_ (fun _ => ?_)
end Go.Proofs.YtjgmmaeafodpmaaGreatDoor.P
set_option linter.unusedVariables false
set_option linter.unusedSimpArgs false
namespace Go.Proofs.YtjgmmaeafodpmaaGreatDoor.P
open Go.RowKit Go.Proofs.YtjgmmaeafodpmaaGreatDoorW.PrintWords Go.Proofs.YtjgmmaeafodpmaaGreatDoorW.PrintLast Go.Proofs.YtjgmmaeafodpmaaGreatDoorW.PrintMore
def steelyardlaw10_wakes.f (k : Nat)  : Option (Bool) := (steelyardlaw07_By.f k (-1) 3).bind fun bt1591 => ((decimal_Down.f k bt1591.1 bt1591.2.1 bt1591.2.2 2).bind fun bt1599 => ((decimal_Up.f k bt1591.1 bt1591.2.1 bt1591.2.2 2).bind fun bt1601 => ((decimal_Near.f k bt1591.1 bt1591.2.1 bt1591.2.2 2).bind fun bt1603 => ((steelyardlaw07_By.f k 5 2).bind fun bt1605 => ((decimal_Near.f k bt1605.1 bt1605.2.1 bt1605.2.2 0).bind fun bt1612 => ((decimal_Parse.f k (⟨#[45, 49, 47, 51]⟩ : ByteArray)).bind fun bt1614 => ((decimal_Parse.f k (⟨#[50, 47, 52]⟩ : ByteArray)).bind fun bt1623 => ((decimal_Floor.f k bt1591.1 bt1591.2.1 bt1591.2.2 1).bind fun bt1632 => ((decimal_Down.f k bt1591.1 bt1591.2.1 bt1591.2.2 61).bind fun bt1638 => (if bt1599.2 = 0 then (if bt1599.1.toList = ([45, 48, 46, 51, 52] : List UInt8) then (if bt1601.2 = 0 then (if bt1601.1.toList = ([45, 48, 46, 51, 51] : List UInt8) then (if bt1603.2 = 0 then (if bt1603.1.toList = ([45, 48, 46, 51, 51] : List UInt8) then (if bt1612.2 = 0 then (if bt1612.1.toList = ([50] : List UInt8) then (if bt1614.2.2.2 = 0 then ((steelyardkeep_Rat.f k bt1614.1 bt1614.2.1 bt1614.2.2.1 bt1591.1 bt1591.2.1 bt1591.2.2).bind fun t1640 => (if t1640 = true then (if bt1623.2.2.2 = 12 then (if bt1632.2.2 = 0 then ((whole_Of.f k (-4)).bind fun bt1641 => ((steelyardkeep_Int.f k bt1632.1 bt1632.2.1 bt1641.1 bt1641.2).bind fun t1645 => (if t1645 = true then (if bt1638.2 = 1 then ((decimal_Exact.f k bt1591.1 bt1591.2.1 bt1591.2.2).bind fun t1646 => (if t1646.toList = ([45, 49, 47, 51] : List UInt8) then ((rat_Whole.f k 7).bind fun bt1647 => ((decimal_Exact.f k bt1647.1 bt1647.2.1 bt1647.2.2).bind fun t1654 => (some (t1654.toList == ([55] : List UInt8))))) else (none))) else (none)) else (none)))) else (none)) else (none)) else (none))) else (none)) else (none)) else (none)) else (none)) else (none)) else (none)) else (none)) else (none)) else (none)))))))))))
theorem steelyardlaw10_wakes.mono : ∀ k, LeO (steelyardlaw10_wakes.f k ) (steelyardlaw10_wakes.f (k + 1) ) := by
  intro  k
  unfold steelyardlaw10_wakes.f
  repeat' first
   | with_reducible first
    | exact decimal_Down.mono _ _ _ _ _
    | exact decimal_Exact.mono _ _ _ _
    | exact decimal_Floor.mono _ _ _ _ _
    | exact decimal_Near.mono _ _ _ _ _
    | exact decimal_Parse.mono _ _
    | exact decimal_Up.mono _ _ _ _ _
    | exact rat_Whole.mono _ _
    | exact steelyardkeep_Int.mono _ _ _ _ _
    | exact steelyardkeep_Rat.mono _ _ _ _ _ _ _
    | exact steelyardlaw07_By.mono _ _ _
    | exact whole_Of.mono _ _
    | exact LeO.refl _
    | exact LeO.none _
    | refine LeO.ite ?_ ?_
    | refine LeO.bind ?_ (fun _ => ?_)
   | exact LeO.none _ | refine LeO.ite ?_ ?_ | refine LeO.bind ?_ (fun _ => ?_)
mutual
def steelyardlaw10_number.l0 : Nat → ByteArray → Int → ByteArray → Bool → Int → Bool → Int → Option (Bool × List Int × List Int × Bool)
  | 0, _, _, _, _, _, _, _ => none
  | k + 1, x0, x1, x6, x7, x8, x9, x10 => if x10 < (x0.size : Int) then (if 0 ≤ x10 then (if (bt x0 x10) = 45 then (steelyardlaw10_number.j1 k x0 x1 x6 x7 x8 x9 x10 (x10 == 0)) else (steelyardlaw10_number.j1 k x0 x1 x6 x7 x8 x9 x10 false)) else (none)) else ((digits_Parse.f k x6).bind fun bt1951 => ((digits_Ten.f k x8).bind fun bt1955 => (if bt1951.2 = true then (if bt1955.2 = true then (if x8 = x1 then (if (x9 != (decide (x1 > 0))) = true then (some (false, ([] : List Int), ([] : List Int), false)) else ((rat_Of.f k x7 bt1951.1 bt1955.1).bind fun bt1959 => (some (bt1959.1, bt1959.2.1, bt1959.2.2.1, (bt1959.2.2.2 == 0))))) else (some (false, ([] : List Int), ([] : List Int), false))) else (some (false, ([] : List Int), ([] : List Int), false))) else (some (false, ([] : List Int), ([] : List Int), false)))))
def steelyardlaw10_number.j1 : Nat → ByteArray → Int → ByteArray → Bool → Int → Bool → Int → Bool → Option (Bool × List Int × List Int × Bool)
  | 0, _, _, _, _, _, _, _, _ => none
  | k + 1, x0, x1, x6, x7, x8, x9, x10, x24 => if x24 = true then (steelyardlaw10_number.l0 k x0 x1 x6 true x8 x9 (wrap64 (x10 + 1))) else (if 0 ≤ x10 then (if x10 < (x0.size : Int) then (if (bt x0 x10) = 46 then (steelyardlaw10_number.j2 k x0 x1 x6 x7 x8 x9 x10 (!x9)) else (steelyardlaw10_number.j2 k x0 x1 x6 x7 x8 x9 x10 false)) else (none)) else (none))
def steelyardlaw10_number.j2 : Nat → ByteArray → Int → ByteArray → Bool → Int → Bool → Int → Bool → Option (Bool × List Int × List Int × Bool)
  | 0, _, _, _, _, _, _, _, _ => none
  | k + 1, x0, x1, x6, x7, x8, x9, x10, x33 => if x33 = true then (steelyardlaw10_number.l0 k x0 x1 x6 x7 x8 true (wrap64 (x10 + 1))) else (if 0 ≤ x10 then (if x10 < (x0.size : Int) then (if (bt x0 x10) ≥ 48 then (steelyardlaw10_number.j3 k x0 x1 x6 x7 x8 x9 x10 (decide ((bt x0 x10) ≤ 57))) else (steelyardlaw10_number.j3 k x0 x1 x6 x7 x8 x9 x10 false)) else (none)) else (none))
def steelyardlaw10_number.j3 : Nat → ByteArray → Int → ByteArray → Bool → Int → Bool → Int → Bool → Option (Bool × List Int × List Int × Bool)
  | 0, _, _, _, _, _, _, _, _ => none
  | k + 1, x0, x1, x6, x7, x8, x9, x10, x42 => if x42 = true then (if 0 ≤ x10 then (if x10 ≤ (wrap64 (x10 + 1)) then (if (wrap64 (x10 + 1)) ≤ (x0.size : Int) then (if x6.size + (x0.extract (x10 : Int).toNat ((wrap64 (x10 + 1)) : Int).toNat).size ≤ 9223372036854775807 then (if x9 = true then (steelyardlaw10_number.l0 k x0 x1 (x6 ++ (x0.extract (x10 : Int).toNat ((wrap64 (x10 + 1)) : Int).toNat)) x7 (wrap64 (x8 + 1)) x9 (wrap64 (x10 + 1))) else (steelyardlaw10_number.l0 k x0 x1 (x6 ++ (x0.extract (x10 : Int).toNat ((wrap64 (x10 + 1)) : Int).toNat)) x7 x8 x9 (wrap64 (x10 + 1)))) else (none)) else (none)) else (none)) else (none)) else (some (false, ([] : List Int), ([] : List Int), false))
end
def steelyardlaw10_number.f (k : Nat) (a0 : ByteArray) (a1 : Int) : Option (Bool × List Int × List Int × Bool) := steelyardlaw10_number.l0 k a0 a1 (⟨#[]⟩ : ByteArray) false 0 false 0
theorem steelyardlaw10_number.mono_l : ∀ k, (∀ y0 y1 y2 y3 y4 y5 y6, LeO (steelyardlaw10_number.l0 k y0 y1 y2 y3 y4 y5 y6) (steelyardlaw10_number.l0 (k + 1) y0 y1 y2 y3 y4 y5 y6)) ∧ (∀ y0 y1 y2 y3 y4 y5 y6 y7, LeO (steelyardlaw10_number.j1 k y0 y1 y2 y3 y4 y5 y6 y7) (steelyardlaw10_number.j1 (k + 1) y0 y1 y2 y3 y4 y5 y6 y7)) ∧ (∀ y0 y1 y2 y3 y4 y5 y6 y7, LeO (steelyardlaw10_number.j2 k y0 y1 y2 y3 y4 y5 y6 y7) (steelyardlaw10_number.j2 (k + 1) y0 y1 y2 y3 y4 y5 y6 y7)) ∧ (∀ y0 y1 y2 y3 y4 y5 y6 y7, LeO (steelyardlaw10_number.j3 k y0 y1 y2 y3 y4 y5 y6 y7) (steelyardlaw10_number.j3 (k + 1) y0 y1 y2 y3 y4 y5 y6 y7))
  | 0 => ⟨fun _ _ _ _ _ _ _ r h => by simp [steelyardlaw10_number.l0] at h, fun _ _ _ _ _ _ _ _ r h => by simp [steelyardlaw10_number.j1] at h, fun _ _ _ _ _ _ _ _ r h => by simp [steelyardlaw10_number.j2] at h, fun _ _ _ _ _ _ _ _ r h => by simp [steelyardlaw10_number.j3] at h⟩
  | k + 1 => by
    obtain ⟨ih0, ih1, ih2, ih3⟩ := steelyardlaw10_number.mono_l k
    refine ⟨?_, ?_, ?_, ?_⟩
    · intro y0 y1 y2 y3 y4 y5 y6
      unfold steelyardlaw10_number.l0
      repeat' first
       | with_reducible first
        | exact ih0 _ _ _ _ _ _ _
        | exact ih1 _ _ _ _ _ _ _ _
        | exact ih2 _ _ _ _ _ _ _ _
        | exact ih3 _ _ _ _ _ _ _ _
        | exact digits_Parse.mono _ _
        | exact digits_Ten.mono _ _
        | exact rat_Of.mono _ _ _ _
        | exact LeO.refl _
        | exact LeO.none _
        | refine LeO.ite ?_ ?_
        | refine LeO.bind ?_ (fun _ => ?_)
       | exact LeO.none _ | refine LeO.ite ?_ ?_ | refine LeO.bind ?_ (fun _ => ?_)
    · intro y0 y1 y2 y3 y4 y5 y6 y7
      unfold steelyardlaw10_number.j1
      repeat' first
       | with_reducible first
        | exact ih0 _ _ _ _ _ _ _
        | exact ih1 _ _ _ _ _ _ _ _
        | exact ih2 _ _ _ _ _ _ _ _
        | exact ih3 _ _ _ _ _ _ _ _
        | exact digits_Parse.mono _ _
        | exact digits_Ten.mono _ _
        | exact rat_Of.mono _ _ _ _
        | exact LeO.refl _
        | exact LeO.none _
        | refine LeO.ite ?_ ?_
        | refine LeO.bind ?_ (fun _ => ?_)
       | exact LeO.none _ | refine LeO.ite ?_ ?_ | refine LeO.bind ?_ (fun _ => ?_)
    · intro y0 y1 y2 y3 y4 y5 y6 y7
      unfold steelyardlaw10_number.j2
      repeat' first
       | with_reducible first
        | exact ih0 _ _ _ _ _ _ _
        | exact ih1 _ _ _ _ _ _ _ _
        | exact ih2 _ _ _ _ _ _ _ _
        | exact ih3 _ _ _ _ _ _ _ _
        | exact digits_Parse.mono _ _
        | exact digits_Ten.mono _ _
        | exact rat_Of.mono _ _ _ _
        | exact LeO.refl _
        | exact LeO.none _
        | refine LeO.ite ?_ ?_
        | refine LeO.bind ?_ (fun _ => ?_)
       | exact LeO.none _ | refine LeO.ite ?_ ?_ | refine LeO.bind ?_ (fun _ => ?_)
    · intro y0 y1 y2 y3 y4 y5 y6 y7
      unfold steelyardlaw10_number.j3
      repeat' first
       | with_reducible first
        | exact ih0 _ _ _ _ _ _ _
        | exact ih1 _ _ _ _ _ _ _ _
        | exact ih2 _ _ _ _ _ _ _ _
        | exact ih3 _ _ _ _ _ _ _ _
        | exact digits_Parse.mono _ _
        | exact digits_Ten.mono _ _
        | exact rat_Of.mono _ _ _ _
        | exact LeO.refl _
        | exact LeO.none _
        | refine LeO.ite ?_ ?_
        | refine LeO.bind ?_ (fun _ => ?_)
       | exact LeO.none _ | refine LeO.ite ?_ ?_ | refine LeO.bind ?_ (fun _ => ?_)
theorem steelyardlaw10_number.mono : ∀ a0 a1 k, LeO (steelyardlaw10_number.f k a0 a1) (steelyardlaw10_number.f (k + 1) a0 a1) := by
  intro a0 a1 k
  obtain ⟨ih0, ih1, ih2, ih3⟩ := steelyardlaw10_number.mono_l k
  unfold steelyardlaw10_number.f
  repeat' first
   | with_reducible first
    | exact ih0 _ _ _ _ _ _ _
    | exact ih1 _ _ _ _ _ _ _ _
    | exact ih2 _ _ _ _ _ _ _ _
    | exact ih3 _ _ _ _ _ _ _ _
    | exact digits_Parse.mono _ _
    | exact digits_Ten.mono _ _
    | exact rat_Of.mono _ _ _ _
    | exact LeO.refl _
    | exact LeO.none _
    | refine LeO.ite ?_ ?_
    | refine LeO.bind ?_ (fun _ => ?_)
   | exact LeO.none _ | refine LeO.ite ?_ ?_ | refine LeO.bind ?_ (fun _ => ?_)
def steelyardlaw10_below.f (k : Nat) (a0 : ByteArray) (a1 : ByteArray) (a2 : Int) : Option (Bool) := (steelyardlaw10_number.f k a0 a2).bind fun bt2073 => ((steelyardlaw10_number.f k a1 a2).bind fun bt2082 => (if bt2073.2.2.2 = true then (if bt2082.2.2.2 = true then ((rat_Cmp.f k bt2073.1 bt2073.2.1 bt2073.2.2.1 bt2082.1 bt2082.2.1 bt2082.2.2.1).bind fun t2091 => (some (decide (t2091 ≤ 0)))) else (some false)) else (some false)))
theorem steelyardlaw10_below.mono : ∀ a0 a1 a2 k, LeO (steelyardlaw10_below.f k a0 a1 a2) (steelyardlaw10_below.f (k + 1) a0 a1 a2) := by
  intro a0 a1 a2 k
  unfold steelyardlaw10_below.f
  repeat' first
   | with_reducible first
    | exact rat_Cmp.mono _ _ _ _ _ _ _
    | exact steelyardlaw10_number.mono _ _ _
    | exact LeO.refl _
    | exact LeO.none _
    | refine LeO.ite ?_ ?_
    | refine LeO.bind ?_ (fun _ => ?_)
   | exact LeO.none _ | refine LeO.ite ?_ ?_ | refine LeO.bind ?_ (fun _ => ?_)
end Go.Proofs.YtjgmmaeafodpmaaGreatDoor.P

/- Plain functions: what the Go functions of a package come to. · Plain functions: what the Go functions of a package come to. · Plain functions: what the Go functions of a package come to. · Plain functions: what the Go functions of a package come to. · Plain functions: what the Go functions of a package come to. · Plain functions: what the Go functions of a package come to. · Plain functions: what the Go functions of a package come to. · Plain functions: what the Go functions of a package come to. · Plain functions: what the Go functions of a package come to. · Plain functions: what the Go functions of a package come to. · Plain functions: what the Go functions of a package come to. · Plain functions: what the Go functions of a package come to. · Plain functions: what the Go functions of a package come to. · Plain functions: what the Go functions of a package come to. · Plain functions: what the Go functions of a package come to. · Plain functions: what the Go functions of a package come to. · Plain functions: what the Go functions of a package come to. · Plain functions: what the Go functions of a package come to. · Plain functions: what the Go functions of a package come to. · Plain functions: what the Go functions of a package come to. · Plain functions: what the Go functions of a package come to. · Plain functions: what the Go functions of a package come to. -/
import Derived.Test.YtjgmmaeafodpmaaGreatDoorYWords
import Derived.Lib.Strings
import Derived.Lib.CutLaws
import Derived.Lib.Repeat
set_option linter.unusedVariables false
set_option linter.unusedSimpArgs false
namespace Go.Proofs.YtjgmmaeafodpmaaGreatDoor.P
open Go.RowKit Go.Proofs.YtjgmmaeafodpmaaGreatDoorW.PrintWords Go.Proofs.YtjgmmaeafodpmaaGreatDoorW.PrintLast Go.Proofs.YtjgmmaeafodpmaaGreatDoorW.PrintMore
def len8_ : ByteArray := ⟨(([0, 1, 2, 2, 3, 3, 3, 3, 4, 4, 4, 4, 4, 4, 4, 4, 5, 5, 5, 5, 5, 5, 5, 5, 5, 5, 5, 5, 5, 5, 5, 5, 6, 6, 6, 6, 6, 6, 6, 6, 6, 6, 6, 6, 6, 6, 6, 6, 6, 6, 6, 6, 6, 6, 6, 6, 6, 6, 6, 6, 6, 6, 6, 6].append [7, 7, 7, 7, 7, 7, 7, 7, 7, 7, 7, 7, 7, 7, 7, 7, 7, 7, 7, 7, 7, 7, 7, 7, 7, 7, 7, 7, 7, 7, 7, 7, 7, 7, 7, 7, 7, 7, 7, 7, 7, 7, 7, 7, 7, 7, 7, 7, 7, 7, 7, 7, 7, 7, 7, 7, 7, 7, 7, 7, 7, 7, 7, 7]).append ([8, 8, 8, 8, 8, 8, 8, 8, 8, 8, 8, 8, 8, 8, 8, 8, 8, 8, 8, 8, 8, 8, 8, 8, 8, 8, 8, 8, 8, 8, 8, 8, 8, 8, 8, 8, 8, 8, 8, 8, 8, 8, 8, 8, 8, 8, 8, 8, 8, 8, 8, 8, 8, 8, 8, 8, 8, 8, 8, 8, 8, 8, 8, 8].append [8, 8, 8, 8, 8, 8, 8, 8, 8, 8, 8, 8, 8, 8, 8, 8, 8, 8, 8, 8, 8, 8, 8, 8, 8, 8, 8, 8, 8, 8, 8, 8, 8, 8, 8, 8, 8, 8, 8, 8, 8, 8, 8, 8, 8, 8, 8, 8, 8, 8, 8, 8, 8, 8, 8, 8, 8, 8, 8, 8, 8, 8, 8, 8])).toArray⟩
def bits_Len32.f (a0 : Int) : Option (Int) := if a0 ≥ 65536 then (if (a0 / 65536) ≥ 256 then (if 0 ≤ (((a0 / 65536) / 256) % 256) then (if (((a0 / 65536) / 256) % 256) < 256 then (some (wrap64 ((16 + 8) + (wrap64 (bt len8_ (((a0 / 65536) / 256) % 256)))))) else (none)) else (none)) else (if 0 ≤ ((a0 / 65536) % 256) then (if ((a0 / 65536) % 256) < 256 then (some (wrap64 (16 + (wrap64 (bt len8_ ((a0 / 65536) % 256)))))) else (none)) else (none))) else (if a0 ≥ 256 then (if 0 ≤ ((a0 / 256) % 256) then (if ((a0 / 256) % 256) < 256 then (some (wrap64 ((0 + 8) + (wrap64 (bt len8_ ((a0 / 256) % 256)))))) else (none)) else (none)) else (if 0 ≤ ((a0) % 256) then (if ((a0) % 256) < 256 then (some (wrap64 (0 + (wrap64 (bt len8_ ((a0) % 256)))))) else (none)) else (none)))
def bits_LeadingZeros32.f (a0 : Int) : Option (Int) := (bits_Len32.f a0).bind fun t113 => (some (wrap64 (32 - t113)))
def cmp_isNaN_int.f (a0 : Int) : Option (Bool) := some (a0 != a0)
def cmp_Compare_int.f (a0 : Int) (a1 : Int) : Option (Int) := (cmp_isNaN_int.f a0).bind fun t186 => ((cmp_isNaN_int.f a1).bind fun t187 => (if t186 = true then (if t187 = true then (some 0) else (some (-1))) else (if t187 = true then (some 1) else (if a0 < a1 then (some (-1)) else (if a0 > a1 then (some 1) else (some 0))))))
def cmp_isNaN_uint32.f (a0 : Int) : Option (Bool) := some (a0 != a0)
def cmp_Compare_uint32.f (a0 : Int) (a1 : Int) : Option (Int) := (cmp_isNaN_uint32.f a0).bind fun t188 => ((cmp_isNaN_uint32.f a1).bind fun t189 => (if t188 = true then (if t189 = true then (some 0) else (some (-1))) else (if t189 = true then (some 1) else (if a0 < a1 then (some (-1)) else (if a0 > a1 then (some 1) else (some 0))))))
def bits_Sub32.f (a0 : Int) (a1 : Int) (a2 : Int) : Option (Int × Int) := some ((((a0 - a1) % 4294967296) - a2) % 4294967296, (Go.bits .or .u32 (Go.bits .and .u32 (Go.bits .xor .u32 4294967295 a0) a1) (Go.bits .and .u32 (Go.bits .xor .u32 4294967295 (Go.bits .xor .u32 a0 a1)) ((((a0 - a1) % 4294967296) - a2) % 4294967296))) / 2147483648)
def bits_Add32.f (a0 : Int) (a1 : Int) (a2 : Int) : Option (Int × Int) := some ((IntKind.u64.wrap ((IntKind.u64.wrap ((IntKind.u64.wrap (a0)) + (IntKind.u64.wrap (a1)))) + (IntKind.u64.wrap (a2)))) % 4294967296, ((IntKind.u64.wrap ((IntKind.u64.wrap ((IntKind.u64.wrap (a0)) + (IntKind.u64.wrap (a1)))) + (IntKind.u64.wrap (a2)))) / 4294967296) % 4294967296)
def bits_Div32.f (a0 : Int) (a1 : Int) (a2 : Int) : Option (Int × Int) := if a2 = 0 then (if (IntKind.u64.wrap (a2)) = 0 then (none) else (some ((IntKind.u64.wrap (Int.tdiv (Go.bits .or .u64 (IntKind.u64.wrap ((IntKind.u64.wrap (a0)) * 4294967296)) (IntKind.u64.wrap (a1))) (IntKind.u64.wrap (a2)))) % 4294967296, (Int.tmod (Go.bits .or .u64 (IntKind.u64.wrap ((IntKind.u64.wrap (a0)) * 4294967296)) (IntKind.u64.wrap (a1))) (IntKind.u64.wrap (a2))) % 4294967296))) else (if a2 ≤ a0 then (none) else (if (IntKind.u64.wrap (a2)) = 0 then (none) else (some ((IntKind.u64.wrap (Int.tdiv (Go.bits .or .u64 (IntKind.u64.wrap ((IntKind.u64.wrap (a0)) * 4294967296)) (IntKind.u64.wrap (a1))) (IntKind.u64.wrap (a2)))) % 4294967296, (Int.tmod (Go.bits .or .u64 (IntKind.u64.wrap ((IntKind.u64.wrap (a0)) * 4294967296)) (IntKind.u64.wrap (a1))) (IntKind.u64.wrap (a2))) % 4294967296))))
def slices_Reverse_byte_byte.l0 : Nat → List Int → Int → Int → Option (List Int)
  | 0, _, _, _ => none
  | k + 1, x0, x2, x3 => if x2 < x3 then (if 0 ≤ x3 then (if x3 < (x0.length : Int) then (if 0 ≤ x2 then (if x2 < (x0.length : Int) then (slices_Reverse_byte_byte.l0 k ((x0.set (x2 : Int).toNat (rd x0 x3)).set (x3 : Int).toNat (rd x0 x2)) (wrap64 (x2 + 1)) (wrap64 (x3 - 1))) else (none)) else (none)) else (none)) else (none)) else (some x0)
def slices_Reverse_byte_byte.f (k : Nat) (l0 : List Int) : Option (List Int) := slices_Reverse_byte_byte.l0 k l0 0 (wrap64 ((l0.length : Int) - 1))
theorem slices_Reverse_byte_byte.mono_l : ∀ k, (∀ y0 y1 y2, LeO (slices_Reverse_byte_byte.l0 k y0 y1 y2) (slices_Reverse_byte_byte.l0 (k + 1) y0 y1 y2))
  | 0 => fun _ _ _ r h => by simp [slices_Reverse_byte_byte.l0] at h
  | k + 1 => by
    have ih0 := slices_Reverse_byte_byte.mono_l k
    · intro y0 y1 y2
      unfold slices_Reverse_byte_byte.l0
      repeat' first
       | with_reducible first
        | exact ih0 _ _ _
        | exact LeO.refl _
        | exact LeO.none _
        | refine LeO.ite ?_ ?_
        | refine LeO.bind ?_ (fun _ => ?_)
       | exact LeO.none _ | refine LeO.ite ?_ ?_ | refine LeO.bind ?_ (fun _ => ?_)
theorem slices_Reverse_byte_byte.mono : ∀ a0 k, LeO (slices_Reverse_byte_byte.f k a0) (slices_Reverse_byte_byte.f (k + 1) a0) := by
  intro a0 k
  have ih0 := slices_Reverse_byte_byte.mono_l k
  unfold slices_Reverse_byte_byte.f
  repeat' first
   | with_reducible first
    | exact ih0 _ _ _
    | exact LeO.refl _
    | exact LeO.none _
    | refine LeO.ite ?_ ?_
    | refine LeO.bind ?_ (fun _ => ?_)
   | exact LeO.none _ | refine LeO.ite ?_ ?_ | refine LeO.bind ?_ (fun _ => ?_)
def bits_Mul32.f (a0 : Int) (a1 : Int) : Option (Int × Int) := some (((IntKind.u64.wrap ((IntKind.u64.wrap (a0)) * (IntKind.u64.wrap (a1)))) / 4294967296) % 4294967296, (IntKind.u64.wrap ((IntKind.u64.wrap (a0)) * (IntKind.u64.wrap (a1)))) % 4294967296)
def bits_Mul64.f (a0 : Int) (a1 : Int) : Option (Int × Int) := some (IntKind.u64.wrap ((IntKind.u64.wrap ((IntKind.u64.wrap ((a0 / 4294967296) * (a1 / 4294967296))) + ((IntKind.u64.wrap ((IntKind.u64.wrap ((a0 / 4294967296) * (Go.bits .and .u64 a1 4294967295))) + ((IntKind.u64.wrap ((Go.bits .and .u64 a0 4294967295) * (Go.bits .and .u64 a1 4294967295))) / 4294967296))) / 4294967296))) + ((IntKind.u64.wrap ((Go.bits .and .u64 (IntKind.u64.wrap ((IntKind.u64.wrap ((a0 / 4294967296) * (Go.bits .and .u64 a1 4294967295))) + ((IntKind.u64.wrap ((Go.bits .and .u64 a0 4294967295) * (Go.bits .and .u64 a1 4294967295))) / 4294967296))) 4294967295) + (IntKind.u64.wrap ((Go.bits .and .u64 a0 4294967295) * (a1 / 4294967296))))) / 4294967296)), IntKind.u64.wrap (a0 * a1))
def bits_Mul.f (a0 : Int) (a1 : Int) : Option (Int × Int) := (bits_Mul64.f a0 a1).bind fun bt569 => (some (bt569.1, bt569.2))
def stringslite_HasPrefix.f (a0 : ByteArray) (a1 : ByteArray) : Option (Bool) := if (a0.size : Int) ≥ (a1.size : Int) then (if 0 ≤ (a1.size : Int) then (if (a1.size : Int) ≤ (a0.size : Int) then (some ((a0.extract 0 ((a1.size : Int) : Int).toNat).toList == a1.toList)) else (none)) else (none)) else (some false)
def strings_HasPrefix.f (a0 : ByteArray) (a1 : ByteArray) : Option (Bool) := (stringslite_HasPrefix.f a0 a1).bind fun t571 => (some t571)
def strings_Repeat.f (a0 : ByteArray) (a1 : Int) : Option (ByteArray) := if 0 ≤ a1 then (if a1 ≤ 9223372036854775807 then (if a0.size * a1.toNat ≤ 140737488355328 then some ⟨(Go.Lib.repeatL a0.data.toList a1.toNat).toArray⟩ else none) else none) else none
end Go.Proofs.YtjgmmaeafodpmaaGreatDoor.P
set_option linter.unusedVariables false
set_option linter.unusedSimpArgs false
namespace Go.Proofs.YtjgmmaeafodpmaaGreatDoor.P
open Go.RowKit Go.Proofs.YtjgmmaeafodpmaaGreatDoorW.PrintWords Go.Proofs.YtjgmmaeafodpmaaGreatDoorW.PrintLast Go.Proofs.YtjgmmaeafodpmaaGreatDoorW.PrintMore
def nat_used.l0 : Nat → List Int → Int → Option (Int)
  | 0, _, _ => none
  | k + 1, x0, x3 => if x3 > 0 then (if 0 ≤ (wrap64 (x3 - 1)) then (if (wrap64 (x3 - 1)) < (x0.length : Int) then (if (rd x0 (wrap64 (x3 - 1))) = 0 then (nat_used.l0 k x0 (wrap64 (x3 - 1))) else (some x3)) else (none)) else (none)) else (some x3)
def nat_used.f (k : Nat) (l0 : List Int) : Option (Int) := nat_used.l0 k l0 (l0.length : Int)
theorem nat_used.mono_l : ∀ k, (∀ y0 y1, LeO (nat_used.l0 k y0 y1) (nat_used.l0 (k + 1) y0 y1))
  | 0 => fun _ _ r h => by simp [nat_used.l0] at h
  | k + 1 => by
    have ih0 := nat_used.mono_l k
    · intro y0 y1
      unfold nat_used.l0
      repeat' first
       | with_reducible first
        | exact ih0 _ _
        | exact LeO.refl _
        | exact LeO.none _
        | refine LeO.ite ?_ ?_
        | refine LeO.bind ?_ (fun _ => ?_)
       | exact LeO.none _ | refine LeO.ite ?_ ?_ | refine LeO.bind ?_ (fun _ => ?_)
theorem nat_used.mono : ∀ a0 k, LeO (nat_used.f k a0) (nat_used.f (k + 1) a0) := by
  intro a0 k
  have ih0 := nat_used.mono_l k
  unfold nat_used.f
  repeat' first
   | with_reducible first
    | exact ih0 _ _
    | exact LeO.refl _
    | exact LeO.none _
    | refine LeO.ite ?_ ?_
    | refine LeO.bind ?_ (fun _ => ?_)
   | exact LeO.none _ | refine LeO.ite ?_ ?_ | refine LeO.bind ?_ (fun _ => ?_)
def nat_Trim.f (k : Nat) (l0 : List Int) : Option (List Int) := (nat_used.f k l0).bind fun t102 => (if 0 ≤ t102 then (if (t102 : Int).toNat ≤ 70368744177664 then (some (cpy (List.replicate (t102 : Int).toNat 0) 0 l0)) else (none)) else (none))
theorem nat_Trim.mono : ∀ a0 k, LeO (nat_Trim.f k a0) (nat_Trim.f (k + 1) a0) := by
  intro a0 k
  unfold nat_Trim.f
  repeat' first
   | with_reducible first
    | exact nat_used.mono _ _
    | exact LeO.refl _
    | exact LeO.none _
    | refine LeO.ite ?_ ?_
    | refine LeO.bind ?_ (fun _ => ?_)
   | exact LeO.none _ | refine LeO.ite ?_ ?_ | refine LeO.bind ?_ (fun _ => ?_)
def nat_Of.f (k : Nat) (a0 : Int) : Option (List Int) := (nat_Trim.f k (([(a0) % 4294967296, (a0 / 4294967296) % 4294967296] : List Int))).bind fun t110 => (some t110)
theorem nat_Of.mono : ∀ a0 k, LeO (nat_Of.f k a0) (nat_Of.f (k + 1) a0) := by
  intro a0 k
  unfold nat_Of.f
  repeat' first
   | with_reducible first
    | exact nat_Trim.mono _ _
    | exact LeO.refl _
    | exact LeO.none _
    | refine LeO.ite ?_ ?_
    | refine LeO.bind ?_ (fun _ => ?_)
   | exact LeO.none _ | refine LeO.ite ?_ ?_ | refine LeO.bind ?_ (fun _ => ?_)
def nat_Cmp.l0 : Nat → List Int → List Int → Int → Option (Int)
  | 0, _, _, _ => none
  | k + 1, x0, x1, x7 => if x7 ≥ 0 then (if 0 ≤ x7 then (if x7 < (x0.length : Int) then (if x7 < (x1.length : Int) then ((cmp_Compare_uint32.f (rd x0 x7) (rd x1 x7)).bind fun t195 => (if t195 = 0 then (nat_Cmp.l0 k x0 x1 (wrap64 (x7 - 1))) else (some t195))) else (none)) else (none)) else (none)) else (some 0)
def nat_Cmp.f (k : Nat) (l0 : List Int) (l1 : List Int) : Option (Int) := (nat_used.f k l0).bind fun t190 => ((nat_used.f k l1).bind fun t191 => ((cmp_Compare_int.f t190 t191).bind fun t192 => (if t192 = 0 then (nat_Cmp.l0 k l0 l1 (wrap64 (t190 - 1))) else (some t192))))
theorem nat_Cmp.mono_l : ∀ k, (∀ y0 y1 y2, LeO (nat_Cmp.l0 k y0 y1 y2) (nat_Cmp.l0 (k + 1) y0 y1 y2))
  | 0 => fun _ _ _ r h => by simp [nat_Cmp.l0] at h
  | k + 1 => by
    have ih0 := nat_Cmp.mono_l k
    · intro y0 y1 y2
      unfold nat_Cmp.l0
      repeat' first
       | with_reducible first
        | exact ih0 _ _ _
        | exact nat_used.mono _ _
        | exact LeO.refl _
        | exact LeO.none _
        | refine LeO.ite ?_ ?_
        | refine LeO.bind ?_ (fun _ => ?_)
       | exact LeO.none _ | refine LeO.ite ?_ ?_ | refine LeO.bind ?_ (fun _ => ?_)
theorem nat_Cmp.mono : ∀ a0 a1 k, LeO (nat_Cmp.f k a0 a1) (nat_Cmp.f (k + 1) a0 a1) := by
  intro a0 a1 k
  have ih0 := nat_Cmp.mono_l k
  unfold nat_Cmp.f
  repeat' first
   | with_reducible first
    | exact ih0 _ _ _
    | exact nat_used.mono _ _
    | exact LeO.refl _
    | exact LeO.none _
    | refine LeO.ite ?_ ?_
    | refine LeO.bind ?_ (fun _ => ?_)
   | exact LeO.none _ | refine LeO.ite ?_ ?_ | refine LeO.bind ?_ (fun _ => ?_)
def nat_at.f (l0 : List Int) (a1 : Int) : Option (Int) := if a1 < (l0.length : Int) then (if 0 ≤ a1 then (some (rd l0 a1)) else (none)) else (some 0)
def nat_Sub.l0 : Nat → List Int → List Int → Int → Int → Int → Option (List Int × Bool)
  | 0, _, _, _, _, _ => none
  | k + 1, x1, x6, x7, x16, x17 => if x17 < x16 then (if 0 ≤ x17 then (if x17 < (x6.length : Int) then ((nat_at.f x1 x17).bind fun t202 => ((bits_Sub32.f (rd x6 x17) t202 x7).bind fun bt203 => (nat_Sub.l0 k x1 (x6.set (x17 : Int).toNat bt203.1) bt203.2 x16 (wrap64 (x17 + 1))))) else (none)) else (none)) else ((nat_Trim.f k x6).bind fun t206 => (some (t206, true)))
def nat_Sub.f (k : Nat) (l0 : List Int) (l1 : List Int) : Option (List Int × Bool) := (nat_Cmp.f k l0 l1).bind fun t197 => (if t197 < 0 then (some (([] : List Int), false)) else ((nat_Trim.f k l0).bind fun t198 => (nat_Sub.l0 k l1 t198 0 (t198.length : Int) 0)))
theorem nat_Sub.mono_l : ∀ k, (∀ y0 y1 y2 y3 y4, LeO (nat_Sub.l0 k y0 y1 y2 y3 y4) (nat_Sub.l0 (k + 1) y0 y1 y2 y3 y4))
  | 0 => fun _ _ _ _ _ r h => by simp [nat_Sub.l0] at h
  | k + 1 => by
    have ih0 := nat_Sub.mono_l k
    · intro y0 y1 y2 y3 y4
      unfold nat_Sub.l0
      repeat' first
       | with_reducible first
        | exact ih0 _ _ _ _ _
        | exact nat_Cmp.mono _ _ _
        | exact nat_Trim.mono _ _
        | exact LeO.refl _
        | exact LeO.none _
        | refine LeO.ite ?_ ?_
        | refine LeO.bind ?_ (fun _ => ?_)
       | exact LeO.none _ | refine LeO.ite ?_ ?_ | refine LeO.bind ?_ (fun _ => ?_)
theorem nat_Sub.mono : ∀ a0 a1 k, LeO (nat_Sub.f k a0 a1) (nat_Sub.f (k + 1) a0 a1) := by
  intro a0 a1 k
  have ih0 := nat_Sub.mono_l k
  unfold nat_Sub.f
  repeat' first
   | with_reducible first
    | exact ih0 _ _ _ _ _
    | exact nat_Cmp.mono _ _ _
    | exact nat_Trim.mono _ _
    | exact LeO.refl _
    | exact LeO.none _
    | refine LeO.ite ?_ ?_
    | refine LeO.bind ?_ (fun _ => ?_)
   | exact LeO.none _ | refine LeO.ite ?_ ?_ | refine LeO.bind ?_ (fun _ => ?_)
def nat_Add.l0 : Nat → List Int → List Int → List Int → Int → Int → Int → Option (List Int)
  | 0, _, _, _, _, _, _ => none
  | k + 1, x0, x1, x5, x6, x19, x20 => if x20 < x19 then ((nat_at.f x0 x20).bind fun t350 => ((nat_at.f x1 x20).bind fun t351 => ((bits_Add32.f t350 t351 x6).bind fun bt352 => (if 0 ≤ x20 then (if x20 < (x5.length : Int) then (nat_Add.l0 k x0 x1 (x5.set (x20 : Int).toNat bt352.1) bt352.2 x19 (wrap64 (x20 + 1))) else (none)) else (none))))) else ((nat_Trim.f k x5).bind fun t355 => (some t355))
def nat_Add.f (k : Nat) (l0 : List Int) (l1 : List Int) : Option (List Int) := (nat_used.f k l0).bind fun t344 => ((nat_used.f k l1).bind fun t345 => (if 0 ≤ (wrap64 ((mx t344 t345) + 1)) then (if (wrap64 ((mx t344 t345) + 1) : Int).toNat ≤ 70368744177664 then ((some (List.replicate (wrap64 ((mx t344 t345) + 1) : Int).toNat 0 : List Int)).bind fun y346 => (nat_Add.l0 k l0 l1 (cpy y346 0 l0) 0 (y346.length : Int) 0)) else (none)) else (none)))
theorem nat_Add.mono_l : ∀ k, (∀ y0 y1 y2 y3 y4 y5, LeO (nat_Add.l0 k y0 y1 y2 y3 y4 y5) (nat_Add.l0 (k + 1) y0 y1 y2 y3 y4 y5))
  | 0 => fun _ _ _ _ _ _ r h => by simp [nat_Add.l0] at h
  | k + 1 => by
    have ih0 := nat_Add.mono_l k
    · intro y0 y1 y2 y3 y4 y5
      unfold nat_Add.l0
      repeat' first
       | with_reducible first
        | exact ih0 _ _ _ _ _ _
        | exact nat_Trim.mono _ _
        | exact nat_used.mono _ _
        | exact LeO.refl _
        | exact LeO.none _
        | refine LeO.ite ?_ ?_
        | refine LeO.bind ?_ (fun _ => ?_)
       | exact LeO.none _ | refine LeO.ite ?_ ?_ | refine LeO.bind ?_ (fun _ => ?_)
theorem nat_Add.mono : ∀ a0 a1 k, LeO (nat_Add.f k a0 a1) (nat_Add.f (k + 1) a0 a1) := by
  intro a0 a1 k
  have ih0 := nat_Add.mono_l k
  unfold nat_Add.f
  repeat' first
   | with_reducible first
    | exact ih0 _ _ _ _ _ _
    | exact nat_Trim.mono _ _
    | exact nat_used.mono _ _
    | exact LeO.refl _
    | exact LeO.none _
    | refine LeO.ite ?_ ?_
    | refine LeO.bind ?_ (fun _ => ?_)
   | exact LeO.none _ | refine LeO.ite ?_ ?_ | refine LeO.bind ?_ (fun _ => ?_)
def nat_Bits.f (k : Nat) (l0 : List Int) : Option (Int) := (nat_used.f k l0).bind fun t362 => (if t362 = 0 then (some 0) else (if 0 ≤ (wrap64 (t362 - 1)) then (if (wrap64 (t362 - 1)) < (l0.length : Int) then ((bits_Len32.f (rd l0 (wrap64 (t362 - 1)))).bind fun t364 => (some (wrap64 ((wrap64 (32 * (wrap64 (t362 - 1)))) + t364)))) else (none)) else (none)))
theorem nat_Bits.mono : ∀ a0 k, LeO (nat_Bits.f k a0) (nat_Bits.f (k + 1) a0) := by
  intro a0 k
  unfold nat_Bits.f
  repeat' first
   | with_reducible first
    | exact nat_used.mono _ _
    | exact LeO.refl _
    | exact LeO.none _
    | refine LeO.ite ?_ ?_
    | refine LeO.bind ?_ (fun _ => ?_)
   | exact LeO.none _ | refine LeO.ite ?_ ?_ | refine LeO.bind ?_ (fun _ => ?_)
end Go.Proofs.YtjgmmaeafodpmaaGreatDoor.P
set_option linter.unusedVariables false
set_option linter.unusedSimpArgs false
namespace Go.Proofs.YtjgmmaeafodpmaaGreatDoor.P
open Go.RowKit Go.Proofs.YtjgmmaeafodpmaaGreatDoorW.PrintWords Go.Proofs.YtjgmmaeafodpmaaGreatDoorW.PrintLast Go.Proofs.YtjgmmaeafodpmaaGreatDoorW.PrintMore
mutual
def mul_Of.l0 : Nat → List Int → List Int → List Int → Int → Int → Option (List Int)
  | 0, _, _, _, _, _ => none
  | k + 1, x1, x5, x21, x22, x23 => if x23 < x22 then (if 0 ≤ x23 then (if x23 < (x21.length : Int) then (if 0 ≤ (wrap64 ((x1.length : Int) + 1)) then (if (wrap64 ((x1.length : Int) + 1) : Int).toNat ≤ 70368744177664 then ((some (List.replicate (wrap64 ((x1.length : Int) + 1) : Int).toNat 0 : List Int)).bind fun y127 => (if x23 ≤ (x5.length : Int) then (mul_Of.l1 k x1 x5 x23 (rd x21 x23) (cpy y127 0 (x5.drop (x23 : Int).toNat)) 0 x21 x22 x23 (y127.length : Int) 0) else (none))) else (none)) else (none)) else (none)) else (none)) else ((nat_Trim.f k x5).bind fun t123 => (some t123))
def mul_Of.l1 : Nat → List Int → List Int → Int → Int → List Int → Int → List Int → Int → Int → Int → Int → Option (List Int)
  | 0, _, _, _, _, _, _, _, _, _, _, _ => none
  | k + 1, x1, x5, x6, x7, x8, x9, x21, x22, x23, x38, x39 => if x39 < x38 then (if x39 < (x1.length : Int) then (if 0 ≤ x39 then (if x39 < (x8.length : Int) then (mul_Of.l1 k x1 x5 x6 x7 (x8.set (x39 : Int).toNat ((IntKind.u64.wrap ((IntKind.u64.wrap (x9 + (IntKind.u64.wrap ((IntKind.u64.wrap (x7)) * (IntKind.u64.wrap (rd x1 x39)))))) + (IntKind.u64.wrap (rd x8 x39)))) % 4294967296)) ((IntKind.u64.wrap ((IntKind.u64.wrap (x9 + (IntKind.u64.wrap ((IntKind.u64.wrap (x7)) * (IntKind.u64.wrap (rd x1 x39)))))) + (IntKind.u64.wrap (rd x8 x39)))) / 4294967296) x21 x22 x23 x38 (wrap64 (x39 + 1))) else (none)) else (none)) else (if 0 ≤ x39 then (if x39 < (x8.length : Int) then (mul_Of.l1 k x1 x5 x6 x7 (x8.set (x39 : Int).toNat ((IntKind.u64.wrap (x9 + (IntKind.u64.wrap (rd x8 x39)))) % 4294967296)) ((IntKind.u64.wrap (x9 + (IntKind.u64.wrap (rd x8 x39)))) / 4294967296) x21 x22 x23 x38 (wrap64 (x39 + 1))) else (none)) else (none))) else (if 0 ≤ x6 then (if x6 ≤ (x5.length : Int) then (mul_Of.l0 k x1 (cpy x5 (x6 : Int).toNat x8) x21 x22 (wrap64 (x23 + 1))) else (none)) else (none))
end
def mul_Of.f (k : Nat) (l0 : List Int) (l1 : List Int) : Option (List Int) := (nat_Trim.f k l0).bind fun t114 => ((nat_Trim.f k l1).bind fun t117 => (if 0 ≤ (wrap64 ((t114.length : Int) + (t117.length : Int))) then (if (wrap64 ((t114.length : Int) + (t117.length : Int)) : Int).toNat ≤ 70368744177664 then (mul_Of.l0 k t117 (List.replicate (wrap64 ((t114.length : Int) + (t117.length : Int)) : Int).toNat 0) t114 (t114.length : Int) 0) else (none)) else (none)))
theorem mul_Of.mono_l : ∀ k, (∀ y0 y1 y2 y3 y4, LeO (mul_Of.l0 k y0 y1 y2 y3 y4) (mul_Of.l0 (k + 1) y0 y1 y2 y3 y4)) ∧ (∀ y0 y1 y2 y3 y4 y5 y6 y7 y8 y9 y10, LeO (mul_Of.l1 k y0 y1 y2 y3 y4 y5 y6 y7 y8 y9 y10) (mul_Of.l1 (k + 1) y0 y1 y2 y3 y4 y5 y6 y7 y8 y9 y10))
  | 0 => ⟨fun _ _ _ _ _ r h => by simp [mul_Of.l0] at h, fun _ _ _ _ _ _ _ _ _ _ _ r h => by simp [mul_Of.l1] at h⟩
  | k + 1 => by
    obtain ⟨ih0, ih1⟩ := mul_Of.mono_l k
    refine ⟨?_, ?_⟩
    · intro y0 y1 y2 y3 y4
      unfold mul_Of.l0
      repeat' first
       | with_reducible first
        | exact ih0 _ _ _ _ _
        | exact ih1 _ _ _ _ _ _ _ _ _ _ _
        | exact nat_Trim.mono _ _
        | exact LeO.refl _
        | exact LeO.none _
        | refine LeO.ite ?_ ?_
        | refine LeO.bind ?_ (fun _ => ?_)
       | exact LeO.none _ | refine LeO.ite ?_ ?_ | refine LeO.bind ?_ (fun _ => ?_)
    · intro y0 y1 y2 y3 y4 y5 y6 y7 y8 y9 y10
      unfold mul_Of.l1
      repeat' first
       | with_reducible first
        | exact ih0 _ _ _ _ _
        | exact ih1 _ _ _ _ _ _ _ _ _ _ _
        | exact nat_Trim.mono _ _
        | exact LeO.refl _
        | exact LeO.none _
        | refine LeO.ite ?_ ?_
        | refine LeO.bind ?_ (fun _ => ?_)
       | exact LeO.none _ | refine LeO.ite ?_ ?_ | refine LeO.bind ?_ (fun _ => ?_)
theorem mul_Of.mono : ∀ a0 a1 k, LeO (mul_Of.f k a0 a1) (mul_Of.f (k + 1) a0 a1) := by
  intro a0 a1 k
  obtain ⟨ih0, ih1⟩ := mul_Of.mono_l k
  unfold mul_Of.f
  repeat' first
   | with_reducible first
    | exact ih0 _ _ _ _ _
    | exact ih1 _ _ _ _ _ _ _ _ _ _ _
    | exact nat_Trim.mono _ _
    | exact LeO.refl _
    | exact LeO.none _
    | refine LeO.ite ?_ ?_
    | refine LeO.bind ?_ (fun _ => ?_)
   | exact LeO.none _ | refine LeO.ite ?_ ?_ | refine LeO.bind ?_ (fun _ => ?_)
def mul_Small.f (k : Nat) (l0 : List Int) (a1 : Int) : Option (List Int) := (mul_Of.f k l0 (([a1] : List Int))).bind fun t148 => (some t148)
theorem mul_Small.mono : ∀ a0 a1 k, LeO (mul_Small.f k a0 a1) (mul_Small.f (k + 1) a0 a1) := by
  intro a0 a1 k
  unfold mul_Small.f
  repeat' first
   | with_reducible first
    | exact mul_Of.mono _ _ _
    | exact LeO.refl _
    | exact LeO.none _
    | refine LeO.ite ?_ ?_
    | refine LeO.bind ?_ (fun _ => ?_)
   | exact LeO.none _ | refine LeO.ite ?_ ?_ | refine LeO.bind ?_ (fun _ => ?_)
def mul_up.f (k : Nat) (l0 : List Int) (a1 : Int) : Option (List Int) := if 0 ≤ (wrap64 ((wrap64 ((wrap64 (Int.tdiv a1 32)) + (l0.length : Int))) + 1)) then (if (wrap64 ((wrap64 ((wrap64 (Int.tdiv a1 32)) + (l0.length : Int))) + 1) : Int).toNat ≤ 70368744177664 then ((some (List.replicate (wrap64 ((wrap64 ((wrap64 (Int.tdiv a1 32)) + (l0.length : Int))) + 1) : Int).toNat 0 : List Int)).bind fun y151 => (if 0 ≤ (wrap64 (Int.tdiv a1 32)) then (if (wrap64 (Int.tdiv a1 32)) ≤ (y151.length : Int) then (if 0 ≤ (Int.tmod a1 32) then ((mul_Small.f k (cpy y151 ((wrap64 (Int.tdiv a1 32)) : Int).toNat l0) (shl .u32 1 (Int.tmod a1 32))).bind fun t159 => (some t159)) else (none)) else (none)) else (none))) else (none)) else (none)
theorem mul_up.mono : ∀ a0 a1 k, LeO (mul_up.f k a0 a1) (mul_up.f (k + 1) a0 a1) := by
  intro a0 a1 k
  unfold mul_up.f
  repeat' first
   | with_reducible first
    | exact mul_Small.mono _ _ _
    | exact LeO.refl _
    | exact LeO.none _
    | refine LeO.ite ?_ ?_
    | refine LeO.bind ?_ (fun _ => ?_)
   | exact LeO.none _ | refine LeO.ite ?_ ?_ | refine LeO.bind ?_ (fun _ => ?_)
def mul_down.l0 : Nat → Int → List Int → Int → Int → Option (List Int)
  | 0, _, _, _, _ => none
  | k + 1, x1, x5, x20, x21 => if x21 < x20 then (if (wrap64 (x21 + 1)) < (x5.length : Int) then (if 0 ≤ (wrap64 (x21 + 1)) then (if 0 ≤ x21 then (if x21 < (x5.length : Int) then (if 0 ≤ (Int.tmod x1 32) then (mul_down.l0 k x1 (x5.set (x21 : Int).toNat ((shr .u64 (Go.bits .or .u64 (IntKind.u64.wrap ((IntKind.u64.wrap (rd x5 (wrap64 (x21 + 1)))) * 4294967296)) (IntKind.u64.wrap (rd x5 x21))) (Int.tmod x1 32)) % 4294967296)) x20 (wrap64 (x21 + 1))) else (none)) else (none)) else (none)) else (none)) else (if 0 ≤ x21 then (if x21 < (x5.length : Int) then (if 0 ≤ (Int.tmod x1 32) then (mul_down.l0 k x1 (x5.set (x21 : Int).toNat ((shr .u64 (Go.bits .or .u64 0 (IntKind.u64.wrap (rd x5 x21))) (Int.tmod x1 32)) % 4294967296)) x20 (wrap64 (x21 + 1))) else (none)) else (none)) else (none))) else ((nat_Trim.f k x5).bind fun t174 => (some t174))
def mul_down.f (k : Nat) (l0 : List Int) (a1 : Int) : Option (List Int) := if (wrap64 (Int.tdiv a1 32)) ≥ (l0.length : Int) then (some (([] : List Int))) else (if 0 ≤ (wrap64 (Int.tdiv a1 32)) then (if (wrap64 (Int.tdiv a1 32)) ≤ (l0.length : Int) then ((nat_Trim.f k (l0.drop ((wrap64 (Int.tdiv a1 32)) : Int).toNat)).bind fun t166 => (mul_down.l0 k a1 t166 (t166.length : Int) 0)) else (none)) else (none))
theorem mul_down.mono_l : ∀ k, (∀ y0 y1 y2 y3, LeO (mul_down.l0 k y0 y1 y2 y3) (mul_down.l0 (k + 1) y0 y1 y2 y3))
  | 0 => fun _ _ _ _ r h => by simp [mul_down.l0] at h
  | k + 1 => by
    have ih0 := mul_down.mono_l k
    · intro y0 y1 y2 y3
      unfold mul_down.l0
      repeat' first
       | with_reducible first
        | exact ih0 _ _ _ _
        | exact nat_Trim.mono _ _
        | exact LeO.refl _
        | exact LeO.none _
        | refine LeO.ite ?_ ?_
        | refine LeO.bind ?_ (fun _ => ?_)
       | exact LeO.none _ | refine LeO.ite ?_ ?_ | refine LeO.bind ?_ (fun _ => ?_)
theorem mul_down.mono : ∀ a0 a1 k, LeO (mul_down.f k a0 a1) (mul_down.f (k + 1) a0 a1) := by
  intro a0 a1 k
  have ih0 := mul_down.mono_l k
  unfold mul_down.f
  repeat' first
   | with_reducible first
    | exact ih0 _ _ _ _
    | exact nat_Trim.mono _ _
    | exact LeO.refl _
    | exact LeO.none _
    | refine LeO.ite ?_ ?_
    | refine LeO.bind ?_ (fun _ => ?_)
   | exact LeO.none _ | refine LeO.ite ?_ ?_ | refine LeO.bind ?_ (fun _ => ?_)
def mul_Shift.f (k : Nat) (l0 : List Int) (a1 : Int) : Option (List Int) := if a1 ≥ 0 then ((mul_up.f k l0 (mn a1 8192)).bind fun t177 => (some t177)) else (if a1 < (-8192) then (some (([] : List Int))) else ((mul_down.f k l0 (wrap64 (-a1))).bind fun t183 => (some t183)))
theorem mul_Shift.mono : ∀ a0 a1 k, LeO (mul_Shift.f k a0 a1) (mul_Shift.f (k + 1) a0 a1) := by
  intro a0 a1 k
  unfold mul_Shift.f
  repeat' first
   | with_reducible first
    | exact mul_down.mono _ _ _
    | exact mul_up.mono _ _ _
    | exact LeO.refl _
    | exact LeO.none _
    | refine LeO.ite ?_ ?_
    | refine LeO.bind ?_ (fun _ => ?_)
   | exact LeO.none _ | refine LeO.ite ?_ ?_ | refine LeO.bind ?_ (fun _ => ?_)
end Go.Proofs.YtjgmmaeafodpmaaGreatDoor.P
set_option linter.unusedVariables false
set_option linter.unusedSimpArgs false
namespace Go.Proofs.YtjgmmaeafodpmaaGreatDoor.P
open Go.RowKit Go.Proofs.YtjgmmaeafodpmaaGreatDoorW.PrintWords Go.Proofs.YtjgmmaeafodpmaaGreatDoorW.PrintLast Go.Proofs.YtjgmmaeafodpmaaGreatDoorW.PrintMore
def quo_less.l0 : Nat → List Int → List Int → Int → Option (List Int × Int)
  | 0, _, _, _ => none
  | k + 1, x0, x1, x2 => (mul_Small.f k x1 x2).bind fun t209 => ((nat_Sub.f k x0 t209).bind fun bt212 => (if bt212.2 = true then (some (bt212.1, x2)) else (quo_less.l0 k x0 x1 ((x2 - 1) % 4294967296))))
def quo_less.f (k : Nat) (l0 : List Int) (l1 : List Int) (a2 : Int) : Option (List Int × Int) := quo_less.l0 k l0 l1 a2
theorem quo_less.mono_l : ∀ k, (∀ y0 y1 y2, LeO (quo_less.l0 k y0 y1 y2) (quo_less.l0 (k + 1) y0 y1 y2))
  | 0 => fun _ _ _ r h => by simp [quo_less.l0] at h
  | k + 1 => by
    have ih0 := quo_less.mono_l k
    · intro y0 y1 y2
      unfold quo_less.l0
      repeat' first
       | with_reducible first
        | exact ih0 _ _ _
        | exact mul_Small.mono _ _ _
        | exact nat_Sub.mono _ _ _
        | exact LeO.refl _
        | exact LeO.none _
        | refine LeO.ite ?_ ?_
        | refine LeO.bind ?_ (fun _ => ?_)
       | exact LeO.none _ | refine LeO.ite ?_ ?_ | refine LeO.bind ?_ (fun _ => ?_)
theorem quo_less.mono : ∀ a0 a1 a2 k, LeO (quo_less.f k a0 a1 a2) (quo_less.f (k + 1) a0 a1 a2) := by
  intro a0 a1 a2 k
  have ih0 := quo_less.mono_l k
  unfold quo_less.f
  repeat' first
   | with_reducible first
    | exact ih0 _ _ _
    | exact mul_Small.mono _ _ _
    | exact nat_Sub.mono _ _ _
    | exact LeO.refl _
    | exact LeO.none _
    | refine LeO.ite ?_ ?_
    | refine LeO.bind ?_ (fun _ => ?_)
   | exact LeO.none _ | refine LeO.ite ?_ ?_ | refine LeO.bind ?_ (fun _ => ?_)
def quo_guess.f (l0 : List Int) (l1 : List Int) : Option (Int) := if 0 ≤ (l1.length : Int) then (if (l1.length : Int) < (l0.length : Int) then (if 0 ≤ (wrap64 ((l1.length : Int) - 1)) then (if (wrap64 ((l1.length : Int) - 1)) < (l0.length : Int) then (if (wrap64 ((l1.length : Int) - 1)) < (l1.length : Int) then (if (IntKind.u64.wrap (rd l1 (wrap64 ((l1.length : Int) - 1)))) = 0 then (none) else (some ((mn (IntKind.u64.wrap (Int.tdiv (Go.bits .or .u64 (IntKind.u64.wrap ((IntKind.u64.wrap (rd l0 (l1.length : Int))) * 4294967296)) (IntKind.u64.wrap (rd l0 (wrap64 ((l1.length : Int) - 1))))) (IntKind.u64.wrap (rd l1 (wrap64 ((l1.length : Int) - 1)))))) 4294967295) % 4294967296))) else (none)) else (none)) else (none)) else (none)) else (none)
def quo_Rem.l0 : Nat → List Int → List Int → List Int → Int → List Int → Int → Option (List Int × List Int × Bool)
  | 0, _, _, _, _, _, _ => none
  | k + 1, x0, x1, x4, x7, x8, x9 => if x9 ≥ 0 then (if 0 ≤ (wrap64 ((x1.length : Int) + 1)) then (if (wrap64 ((x1.length : Int) + 1) : Int).toNat ≤ 70368744177664 then ((some (List.replicate (wrap64 ((x1.length : Int) + 1) : Int).toNat 0 : List Int)).bind fun y236 => (if 1 ≤ (y236.length : Int) then (if 0 ≤ x9 then (if x9 < (x0.length : Int) then (if 0 < (y236.length : Int) then ((some ((cpy y236 1 x8).set (0 : Int).toNat (rd x0 x9) : List Int)).bind fun y245 => ((quo_guess.f y245 x1).bind fun t246 => ((quo_less.f k y245 x1 t246).bind fun bt247 => (if x9 < (x4.length : Int) then (quo_Rem.l0 k x0 x1 (x4.set (x9 : Int).toNat bt247.2) x7 bt247.1 (wrap64 (x9 - 1))) else (none))))) else (none)) else (none)) else (none)) else (none))) else (none)) else (none)) else ((nat_Trim.f k x4).bind fun t252 => ((mul_Shift.f k x8 (wrap64 (-x7))).bind fun t255 => (some (t252, t255, true))))
def quo_Rem.f (k : Nat) (l0 : List Int) (l1 : List Int) : Option (List Int × List Int × Bool) := (nat_Trim.f k l1).bind fun t219 => (if (t219.length : Int) = 0 then (some (([] : List Int), ([] : List Int), false)) else (if 0 ≤ (wrap64 ((t219.length : Int) - 1)) then (if (wrap64 ((t219.length : Int) - 1)) < (t219.length : Int) then ((bits_LeadingZeros32.f (rd t219 (wrap64 ((t219.length : Int) - 1)))).bind fun t223 => ((mul_Shift.f k l0 t223).bind fun t224 => ((mul_Shift.f k t219 t223).bind fun t227 => (if 0 ≤ (t224.length : Int) then (if ((t224.length : Int) : Int).toNat ≤ 70368744177664 then (quo_Rem.l0 k t224 t227 (List.replicate ((t224.length : Int) : Int).toNat 0) t223 (([] : List Int)) (wrap64 ((t224.length : Int) - 1))) else (none)) else (none))))) else (none)) else (none)))
theorem quo_Rem.mono_l : ∀ k, (∀ y0 y1 y2 y3 y4 y5, LeO (quo_Rem.l0 k y0 y1 y2 y3 y4 y5) (quo_Rem.l0 (k + 1) y0 y1 y2 y3 y4 y5))
  | 0 => fun _ _ _ _ _ _ r h => by simp [quo_Rem.l0] at h
  | k + 1 => by
    have ih0 := quo_Rem.mono_l k
    · intro y0 y1 y2 y3 y4 y5
      unfold quo_Rem.l0
      repeat' first
       | with_reducible first
        | exact ih0 _ _ _ _ _ _
        | exact mul_Shift.mono _ _ _
        | exact nat_Trim.mono _ _
        | exact quo_less.mono _ _ _ _
        | exact LeO.refl _
        | exact LeO.none _
        | refine LeO.ite ?_ ?_
        | refine LeO.bind ?_ (fun _ => ?_)
       | exact LeO.none _ | refine LeO.ite ?_ ?_ | refine LeO.bind ?_ (fun _ => ?_)
theorem quo_Rem.mono : ∀ a0 a1 k, LeO (quo_Rem.f k a0 a1) (quo_Rem.f (k + 1) a0 a1) := by
  intro a0 a1 k
  have ih0 := quo_Rem.mono_l k
  unfold quo_Rem.f
  repeat' first
   | with_reducible first
    | exact ih0 _ _ _ _ _ _
    | exact mul_Shift.mono _ _ _
    | exact nat_Trim.mono _ _
    | exact quo_less.mono _ _ _ _
    | exact LeO.refl _
    | exact LeO.none _
    | refine LeO.ite ?_ ?_
    | refine LeO.bind ?_ (fun _ => ?_)
   | exact LeO.none _ | refine LeO.ite ?_ ?_ | refine LeO.bind ?_ (fun _ => ?_)
def quo_Gcd.l0 : Nat → List Int → List Int → Option (List Int)
  | 0, _, _ => none
  | k + 1, x0, x1 => if (x1.length : Int) > 0 then ((quo_Rem.f k x0 x1).bind fun bt264 => (quo_Gcd.l0 k x1 bt264.2.1)) else (some x0)
def quo_Gcd.f (k : Nat) (l0 : List Int) (l1 : List Int) : Option (List Int) := (nat_Trim.f k l0).bind fun t258 => ((nat_Trim.f k l1).bind fun t261 => (quo_Gcd.l0 k t258 t261))
theorem quo_Gcd.mono_l : ∀ k, (∀ y0 y1, LeO (quo_Gcd.l0 k y0 y1) (quo_Gcd.l0 (k + 1) y0 y1))
  | 0 => fun _ _ r h => by simp [quo_Gcd.l0] at h
  | k + 1 => by
    have ih0 := quo_Gcd.mono_l k
    · intro y0 y1
      unfold quo_Gcd.l0
      repeat' first
       | with_reducible first
        | exact ih0 _ _
        | exact nat_Trim.mono _ _
        | exact quo_Rem.mono _ _ _
        | exact LeO.refl _
        | exact LeO.none _
        | refine LeO.ite ?_ ?_
        | refine LeO.bind ?_ (fun _ => ?_)
       | exact LeO.none _ | refine LeO.ite ?_ ?_ | refine LeO.bind ?_ (fun _ => ?_)
theorem quo_Gcd.mono : ∀ a0 a1 k, LeO (quo_Gcd.f k a0 a1) (quo_Gcd.f (k + 1) a0 a1) := by
  intro a0 a1 k
  have ih0 := quo_Gcd.mono_l k
  unfold quo_Gcd.f
  repeat' first
   | with_reducible first
    | exact ih0 _ _
    | exact nat_Trim.mono _ _
    | exact quo_Rem.mono _ _ _
    | exact LeO.refl _
    | exact LeO.none _
    | refine LeO.ite ?_ ?_
    | refine LeO.bind ?_ (fun _ => ?_)
   | exact LeO.none _ | refine LeO.ite ?_ ?_ | refine LeO.bind ?_ (fun _ => ?_)
def quo_Small.l0 : Nat → Int → Int → List Int → Int → Option (List Int × Int × Bool)
  | 0, _, _, _, _ => none
  | k + 1, x1, x5, x7, x8 => if x8 ≥ 0 then (if 0 ≤ x8 then (if x8 < (x7.length : Int) then ((bits_Div32.f x5 (rd x7 x8) x1).bind fun bt541 => (quo_Small.l0 k x1 bt541.2 (x7.set (x8 : Int).toNat bt541.1) (wrap64 (x8 - 1)))) else (none)) else (none)) else ((nat_Trim.f k x7).bind fun t544 => (some (t544, x5, true)))
def quo_Small.f (k : Nat) (l0 : List Int) (a1 : Int) : Option (List Int × Int × Bool) := if a1 = 0 then (some (([] : List Int), 0, false)) else ((nat_Trim.f k l0).bind fun t537 => (quo_Small.l0 k a1 0 t537 (wrap64 ((t537.length : Int) - 1))))
theorem quo_Small.mono_l : ∀ k, (∀ y0 y1 y2 y3, LeO (quo_Small.l0 k y0 y1 y2 y3) (quo_Small.l0 (k + 1) y0 y1 y2 y3))
  | 0 => fun _ _ _ _ r h => by simp [quo_Small.l0] at h
  | k + 1 => by
    have ih0 := quo_Small.mono_l k
    · intro y0 y1 y2 y3
      unfold quo_Small.l0
      repeat' first
       | with_reducible first
        | exact ih0 _ _ _ _
        | exact nat_Trim.mono _ _
        | exact LeO.refl _
        | exact LeO.none _
        | refine LeO.ite ?_ ?_
        | refine LeO.bind ?_ (fun _ => ?_)
       | exact LeO.none _ | refine LeO.ite ?_ ?_ | refine LeO.bind ?_ (fun _ => ?_)
theorem quo_Small.mono : ∀ a0 a1 k, LeO (quo_Small.f k a0 a1) (quo_Small.f (k + 1) a0 a1) := by
  intro a0 a1 k
  have ih0 := quo_Small.mono_l k
  unfold quo_Small.f
  repeat' first
   | with_reducible first
    | exact ih0 _ _ _ _
    | exact nat_Trim.mono _ _
    | exact LeO.refl _
    | exact LeO.none _
    | refine LeO.ite ?_ ?_
    | refine LeO.bind ?_ (fun _ => ?_)
   | exact LeO.none _ | refine LeO.ite ?_ ?_ | refine LeO.bind ?_ (fun _ => ?_)
end Go.Proofs.YtjgmmaeafodpmaaGreatDoor.P
set_option linter.unusedVariables false
set_option linter.unusedSimpArgs false
namespace Go.Proofs.YtjgmmaeafodpmaaGreatDoor.P
open Go.RowKit Go.Proofs.YtjgmmaeafodpmaaGreatDoorW.PrintWords Go.Proofs.YtjgmmaeafodpmaaGreatDoorW.PrintLast Go.Proofs.YtjgmmaeafodpmaaGreatDoorW.PrintMore
def whole_made.f (k : Nat) (a0 : Bool) (l1 : List Int) : Option (Bool × List Int) := if 0 ≤ (l1.length : Int) then (if ((l1.length : Int) : Int).toNat ≤ 70368744177664 then ((nat_Trim.f k (cpy (List.replicate ((l1.length : Int) : Int).toNat 0) 0 l1)).bind fun t287 => (if a0 = true then (some (decide ((t287.length : Int) > 0), t287)) else (some (false, t287)))) else (none)) else (none)
theorem whole_made.mono : ∀ a0 a1 k, LeO (whole_made.f k a0 a1) (whole_made.f (k + 1) a0 a1) := by
  intro a0 a1 k
  unfold whole_made.f
  repeat' first
   | with_reducible first
    | exact nat_Trim.mono _ _
    | exact LeO.refl _
    | exact LeO.none _
    | refine LeO.ite ?_ ?_
    | refine LeO.bind ?_ (fun _ => ?_)
   | exact LeO.none _ | refine LeO.ite ?_ ?_ | refine LeO.bind ?_ (fun _ => ?_)
def whole_Trim.f (k : Nat) (a0_0 : Bool) (l0_1 : List Int) : Option (Bool × List Int) := (whole_made.f k a0_0 l0_1).bind fun bt292 => (some (bt292.1, bt292.2))
theorem whole_Trim.mono : ∀ a0 a1 k, LeO (whole_Trim.f k a0 a1) (whole_Trim.f (k + 1) a0 a1) := by
  intro a0 a1 k
  unfold whole_Trim.f
  repeat' first
   | with_reducible first
    | exact whole_made.mono _ _ _
    | exact LeO.refl _
    | exact LeO.none _
    | refine LeO.ite ?_ ?_
    | refine LeO.bind ?_ (fun _ => ?_)
   | exact LeO.none _ | refine LeO.ite ?_ ?_ | refine LeO.bind ?_ (fun _ => ?_)
mutual
def whole_Cmp.j0 : Nat → Bool → Bool → List Int → Bool → List Int → Option (Int)
  | 0, _, _, _, _, _ => none
  | k + 1, x9, x297000, x297001, x298000, x298001 => if x9 = true then (some (-1)) else (if x298000 = true then (whole_Cmp.j1 k (!x297000) x297000 x297001 x298000 x298001) else (whole_Cmp.j1 k false x297000 x297001 x298000 x298001))
def whole_Cmp.j1 : Nat → Bool → Bool → List Int → Bool → List Int → Option (Int)
  | 0, _, _, _, _, _ => none
  | k + 1, x17, x297000, x297001, x298000, x298001 => if x17 = true then (some 1) else (if x297000 = true then ((nat_Cmp.f k x298001 x297001).bind fun t306 => (some t306)) else ((nat_Cmp.f k x297001 x298001).bind fun t307 => (some t307)))
end
def whole_Cmp.f (k : Nat) (a0_0 : Bool) (l0_1 : List Int) (a1_0 : Bool) (l1_1 : List Int) : Option (Int) := (whole_Trim.f k a0_0 l0_1).bind fun bt298 => ((whole_Trim.f k a1_0 l1_1).bind fun bt302 => (if bt298.1 = true then (whole_Cmp.j0 k (!bt302.1) bt298.1 bt298.2 bt302.1 bt302.2) else (whole_Cmp.j0 k false bt298.1 bt298.2 bt302.1 bt302.2)))
theorem whole_Cmp.mono_l : ∀ k, (∀ y0 y1 y2 y3 y4, LeO (whole_Cmp.j0 k y0 y1 y2 y3 y4) (whole_Cmp.j0 (k + 1) y0 y1 y2 y3 y4)) ∧ (∀ y0 y1 y2 y3 y4, LeO (whole_Cmp.j1 k y0 y1 y2 y3 y4) (whole_Cmp.j1 (k + 1) y0 y1 y2 y3 y4))
  | 0 => ⟨fun _ _ _ _ _ r h => by simp [whole_Cmp.j0] at h, fun _ _ _ _ _ r h => by simp [whole_Cmp.j1] at h⟩
  | k + 1 => by
    obtain ⟨ih0, ih1⟩ := whole_Cmp.mono_l k
    refine ⟨?_, ?_⟩
    · intro y0 y1 y2 y3 y4
      unfold whole_Cmp.j0
      repeat' first
       | with_reducible first
        | exact ih0 _ _ _ _ _
        | exact ih1 _ _ _ _ _
        | exact nat_Cmp.mono _ _ _
        | exact whole_Trim.mono _ _ _
        | exact LeO.refl _
        | exact LeO.none _
        | refine LeO.ite ?_ ?_
        | refine LeO.bind ?_ (fun _ => ?_)
       | exact LeO.none _ | refine LeO.ite ?_ ?_ | refine LeO.bind ?_ (fun _ => ?_)
    · intro y0 y1 y2 y3 y4
      unfold whole_Cmp.j1
      repeat' first
       | with_reducible first
        | exact ih0 _ _ _ _ _
        | exact ih1 _ _ _ _ _
        | exact nat_Cmp.mono _ _ _
        | exact whole_Trim.mono _ _ _
        | exact LeO.refl _
        | exact LeO.none _
        | refine LeO.ite ?_ ?_
        | refine LeO.bind ?_ (fun _ => ?_)
       | exact LeO.none _ | refine LeO.ite ?_ ?_ | refine LeO.bind ?_ (fun _ => ?_)
theorem whole_Cmp.mono : ∀ a0 a1 a2 a3 k, LeO (whole_Cmp.f k a0 a1 a2 a3) (whole_Cmp.f (k + 1) a0 a1 a2 a3) := by
  intro a0 a1 a2 a3 k
  obtain ⟨ih0, ih1⟩ := whole_Cmp.mono_l k
  unfold whole_Cmp.f
  repeat' first
   | with_reducible first
    | exact ih0 _ _ _ _ _
    | exact ih1 _ _ _ _ _
    | exact nat_Cmp.mono _ _ _
    | exact whole_Trim.mono _ _ _
    | exact LeO.refl _
    | exact LeO.none _
    | refine LeO.ite ?_ ?_
    | refine LeO.bind ?_ (fun _ => ?_)
   | exact LeO.none _ | refine LeO.ite ?_ ?_ | refine LeO.bind ?_ (fun _ => ?_)
def whole_Of.f (k : Nat) (a0 : Int) : Option (Bool × List Int) := if a0 < 0 then ((nat_Of.f k (IntKind.u64.wrap (-(IntKind.u64.wrap (a0))))).bind fun t447 => ((whole_made.f k true t447).bind fun bt450 => (some (bt450.1, bt450.2)))) else ((nat_Of.f k (IntKind.u64.wrap (a0))).bind fun t454 => ((whole_made.f k false t454).bind fun bt457 => (some (bt457.1, bt457.2))))
theorem whole_Of.mono : ∀ a0 k, LeO (whole_Of.f k a0) (whole_Of.f (k + 1) a0) := by
  intro a0 k
  unfold whole_Of.f
  repeat' first
   | with_reducible first
    | exact nat_Of.mono _ _
    | exact whole_made.mono _ _ _
    | exact LeO.refl _
    | exact LeO.none _
    | refine LeO.ite ?_ ?_
    | refine LeO.bind ?_ (fun _ => ?_)
   | exact LeO.none _ | refine LeO.ite ?_ ?_ | refine LeO.bind ?_ (fun _ => ?_)
def whole_Add.f (k : Nat) (a0_0 : Bool) (l0_1 : List Int) (a1_0 : Bool) (l1_1 : List Int) : Option (Bool × List Int) := (whole_Trim.f k a0_0 l0_1).bind fun bt464 => ((whole_Trim.f k a1_0 l1_1).bind fun bt468 => (if (bt464.1 == bt468.1) = true then ((nat_Add.f k bt464.2 bt468.2).bind fun t472 => ((whole_made.f k bt464.1 t472).bind fun bt475 => (some (bt475.1, bt475.2)))) else ((nat_Sub.f k bt464.2 bt468.2).bind fun bt479 => (if bt479.2 = true then ((whole_made.f k bt464.1 bt479.1).bind fun bt483 => (some (bt483.1, bt483.2))) else ((nat_Sub.f k bt468.2 bt464.2).bind fun bt487 => ((whole_made.f k bt468.1 bt487.1).bind fun bt491 => (some (bt491.1, bt491.2))))))))
theorem whole_Add.mono : ∀ a0 a1 a2 a3 k, LeO (whole_Add.f k a0 a1 a2 a3) (whole_Add.f (k + 1) a0 a1 a2 a3) := by
  intro a0 a1 a2 a3 k
  unfold whole_Add.f
  repeat' first
   | with_reducible first
    | exact nat_Add.mono _ _ _
    | exact nat_Sub.mono _ _ _
    | exact whole_Trim.mono _ _ _
    | exact whole_made.mono _ _ _
    | exact LeO.refl _
    | exact LeO.none _
    | refine LeO.ite ?_ ?_
    | refine LeO.bind ?_ (fun _ => ?_)
   | exact LeO.none _ | refine LeO.ite ?_ ?_ | refine LeO.bind ?_ (fun _ => ?_)
def whole_Mul.f (k : Nat) (a0_0 : Bool) (l0_1 : List Int) (a1_0 : Bool) (l1_1 : List Int) : Option (Bool × List Int) := (mul_Of.f k l0_1 l1_1).bind fun t1355 => ((whole_made.f k (a0_0 != a1_0) t1355).bind fun bt1358 => (some (bt1358.1, bt1358.2)))
theorem whole_Mul.mono : ∀ a0 a1 a2 a3 k, LeO (whole_Mul.f k a0 a1 a2 a3) (whole_Mul.f (k + 1) a0 a1 a2 a3) := by
  intro a0 a1 a2 a3 k
  unfold whole_Mul.f
  repeat' first
   | with_reducible first
    | exact mul_Of.mono _ _ _
    | exact whole_made.mono _ _ _
    | exact LeO.refl _
    | exact LeO.none _
    | refine LeO.ite ?_ ?_
    | refine LeO.bind ?_ (fun _ => ?_)
   | exact LeO.none _ | refine LeO.ite ?_ ?_ | refine LeO.bind ?_ (fun _ => ?_)
end Go.Proofs.YtjgmmaeafodpmaaGreatDoor.P
set_option linter.unusedVariables false
set_option linter.unusedSimpArgs false
namespace Go.Proofs.YtjgmmaeafodpmaaGreatDoor.P
open Go.RowKit Go.Proofs.YtjgmmaeafodpmaaGreatDoorW.PrintWords Go.Proofs.YtjgmmaeafodpmaaGreatDoorW.PrintLast Go.Proofs.YtjgmmaeafodpmaaGreatDoorW.PrintMore
def rat_trimmed.f (l0 : List Int) : Option (Bool) := if (l0.length : Int) = 0 then (some true) else (if 0 ≤ (wrap64 ((l0.length : Int) - 1)) then (if (wrap64 ((l0.length : Int) - 1)) < (l0.length : Int) then (some ((rd l0 (wrap64 ((l0.length : Int) - 1))) != 0)) else (none)) else (none))
def rat_Good.j0 : Nat → List Int → List Int → Bool → Option (Bool)
  | 0, _, _, _ => none
  | k + 1, x3, x4, x42 => if x42 = true then (some false) else ((quo_Gcd.f k x3 x4).bind fun t275 => ((nat_Of.f k 1).bind fun t278 => ((nat_Cmp.f k t275 t278).bind fun t281 => (some (t281 == 0)))))
def rat_Good.f (k : Nat) (a0_0 : Bool) (l0_1 : List Int) (l0_2 : List Int) : Option (Bool) := (rat_trimmed.f l0_1).bind fun t273 => (if t273 = true then ((rat_trimmed.f l0_2).bind fun t274 => (if t274 = true then (if (l0_2.length : Int) = 0 then (rat_Good.j0 k l0_1 l0_2 true) else (if (l0_2.length : Int) > 64 then (rat_Good.j0 k l0_1 l0_2 true) else (if (l0_1.length : Int) > 64 then (rat_Good.j0 k l0_1 l0_2 true) else (if a0_0 = true then (rat_Good.j0 k l0_1 l0_2 ((l0_1.length : Int) == 0)) else (rat_Good.j0 k l0_1 l0_2 false))))) else (rat_Good.j0 k l0_1 l0_2 true))) else (rat_Good.j0 k l0_1 l0_2 true))
theorem rat_Good.mono_l : ∀ k, (∀ y0 y1 y2, LeO (rat_Good.j0 k y0 y1 y2) (rat_Good.j0 (k + 1) y0 y1 y2))
  | 0 => fun _ _ _ r h => by simp [rat_Good.j0] at h
  | k + 1 => by
    have ih0 := rat_Good.mono_l k
    · intro y0 y1 y2
      unfold rat_Good.j0
      repeat' first
       | with_reducible first
        | exact ih0 _ _ _
        | exact nat_Cmp.mono _ _ _
        | exact nat_Of.mono _ _
        | exact quo_Gcd.mono _ _ _
        | exact LeO.refl _
        | exact LeO.none _
        | refine LeO.ite ?_ ?_
        | refine LeO.bind ?_ (fun _ => ?_)
       | exact LeO.none _ | refine LeO.ite ?_ ?_ | refine LeO.bind ?_ (fun _ => ?_)
theorem rat_Good.mono : ∀ a0 a1 a2 k, LeO (rat_Good.f k a0 a1 a2) (rat_Good.f (k + 1) a0 a1 a2) := by
  intro a0 a1 a2 k
  have ih0 := rat_Good.mono_l k
  unfold rat_Good.f
  repeat' first
   | with_reducible first
    | exact ih0 _ _ _
    | exact nat_Cmp.mono _ _ _
    | exact nat_Of.mono _ _
    | exact quo_Gcd.mono _ _ _
    | exact LeO.refl _
    | exact LeO.none _
    | refine LeO.ite ?_ ?_
    | refine LeO.bind ?_ (fun _ => ?_)
   | exact LeO.none _ | refine LeO.ite ?_ ?_ | refine LeO.bind ?_ (fun _ => ?_)
def rat_Sign.f (k : Nat) (a0_0 : Bool) (l0_1 : List Int) (l0_2 : List Int) : Option (Int) := (rat_Good.f k a0_0 l0_1 l0_2).bind fun t309 => (if t309 = true then ((whole_Cmp.f k a0_0 l0_1 false ([] : List Int)).bind fun t310 => (some t310)) else (some 0))
theorem rat_Sign.mono : ∀ a0 a1 a2 k, LeO (rat_Sign.f k a0 a1 a2) (rat_Sign.f (k + 1) a0 a1 a2) := by
  intro a0 a1 a2 k
  unfold rat_Sign.f
  repeat' first
   | with_reducible first
    | exact rat_Good.mono _ _ _ _
    | exact whole_Cmp.mono _ _ _ _ _
    | exact LeO.refl _
    | exact LeO.none _
    | refine LeO.ite ?_ ?_
    | refine LeO.bind ?_ (fun _ => ?_)
   | exact LeO.none _ | refine LeO.ite ?_ ?_ | refine LeO.bind ?_ (fun _ => ?_)
def rat_Of.f (k : Nat) (a0_0 : Bool) (l0_1 : List Int) (l1 : List Int) : Option (Bool × List Int × List Int × Int) := (whole_Trim.f k a0_0 l0_1).bind fun bt320 => ((nat_Trim.f k l1).bind fun t324 => (if (t324.length : Int) = 0 then (some (false, ([] : List Int), ([] : List Int), 3)) else ((quo_Gcd.f k bt320.2 t324).bind fun t327 => ((quo_Rem.f k bt320.2 t327).bind fun bt330 => ((quo_Rem.f k t324 t327).bind fun bt337 => (if (bt330.1.length : Int) > 64 then (some (false, ([] : List Int), ([] : List Int), 2)) else (if (bt337.1.length : Int) > 64 then (some (false, ([] : List Int), ([] : List Int), 2)) else (some (bt320.1, bt330.1, bt337.1, 0)))))))))
theorem rat_Of.mono : ∀ a0 a1 a2 k, LeO (rat_Of.f k a0 a1 a2) (rat_Of.f (k + 1) a0 a1 a2) := by
  intro a0 a1 a2 k
  unfold rat_Of.f
  repeat' first
   | with_reducible first
    | exact nat_Trim.mono _ _
    | exact quo_Gcd.mono _ _ _
    | exact quo_Rem.mono _ _ _
    | exact whole_Trim.mono _ _ _
    | exact LeO.refl _
    | exact LeO.none _
    | refine LeO.ite ?_ ?_
    | refine LeO.bind ?_ (fun _ => ?_)
   | exact LeO.none _ | refine LeO.ite ?_ ?_ | refine LeO.bind ?_ (fun _ => ?_)
def rat_cross.f (k : Nat) (a0_0 : Bool) (l0_1 : List Int) (l0_2 : List Int) (a1_0 : Bool) (l1_1 : List Int) (l1_2 : List Int) : Option (Bool × List Int) := (whole_Mul.f k a0_0 l0_1 false l1_2).bind fun bt1365 => (some (bt1365.1, bt1365.2))
theorem rat_cross.mono : ∀ a0 a1 a2 a3 a4 a5 k, LeO (rat_cross.f k a0 a1 a2 a3 a4 a5) (rat_cross.f (k + 1) a0 a1 a2 a3 a4 a5) := by
  intro a0 a1 a2 a3 a4 a5 k
  unfold rat_cross.f
  repeat' first
   | with_reducible first
    | exact whole_Mul.mono _ _ _ _ _
    | exact LeO.refl _
    | exact LeO.none _
    | refine LeO.ite ?_ ?_
    | refine LeO.bind ?_ (fun _ => ?_)
   | exact LeO.none _ | refine LeO.ite ?_ ?_ | refine LeO.bind ?_ (fun _ => ?_)
def rat_Cmp.j0 : Nat → Bool → Bool → List Int → List Int → Bool → List Int → List Int → Option (Int)
  | 0, _, _, _, _, _, _, _ => none
  | k + 1, x12, x1370000, x1370001, x1370002, x1371000, x1371001, x1371002 => if x12 = true then (some 0) else ((rat_cross.f k x1370000 x1370001 x1370002 x1371000 x1371001 x1371002).bind fun bt1373 => ((rat_cross.f k x1371000 x1371001 x1371002 x1370000 x1370001 x1370002).bind fun bt1377 => ((whole_Cmp.f k bt1373.1 bt1373.2 bt1377.1 bt1377.2).bind fun t1381 => (some t1381))))
def rat_Cmp.f (k : Nat) (a0_0 : Bool) (l0_1 : List Int) (l0_2 : List Int) (a1_0 : Bool) (l1_1 : List Int) (l1_2 : List Int) : Option (Int) := (rat_Good.f k a0_0 l0_1 l0_2).bind fun t1371 => (if t1371 = true then ((rat_Good.f k a1_0 l1_1 l1_2).bind fun t1372 => (rat_Cmp.j0 k (!t1372) a0_0 l0_1 l0_2 a1_0 l1_1 l1_2)) else (rat_Cmp.j0 k true a0_0 l0_1 l0_2 a1_0 l1_1 l1_2))
theorem rat_Cmp.mono_l : ∀ k, (∀ y0 y1 y2 y3 y4 y5 y6, LeO (rat_Cmp.j0 k y0 y1 y2 y3 y4 y5 y6) (rat_Cmp.j0 (k + 1) y0 y1 y2 y3 y4 y5 y6))
  | 0 => fun _ _ _ _ _ _ _ r h => by simp [rat_Cmp.j0] at h
  | k + 1 => by
    have ih0 := rat_Cmp.mono_l k
    · intro y0 y1 y2 y3 y4 y5 y6
      unfold rat_Cmp.j0
      repeat' first
       | with_reducible first
        | exact ih0 _ _ _ _ _ _ _
        | exact rat_Good.mono _ _ _ _
        | exact rat_cross.mono _ _ _ _ _ _ _
        | exact whole_Cmp.mono _ _ _ _ _
        | exact LeO.refl _
        | exact LeO.none _
        | refine LeO.ite ?_ ?_
        | refine LeO.bind ?_ (fun _ => ?_)
       | exact LeO.none _ | refine LeO.ite ?_ ?_ | refine LeO.bind ?_ (fun _ => ?_)
theorem rat_Cmp.mono : ∀ a0 a1 a2 a3 a4 a5 k, LeO (rat_Cmp.f k a0 a1 a2 a3 a4 a5) (rat_Cmp.f (k + 1) a0 a1 a2 a3 a4 a5) := by
  intro a0 a1 a2 a3 a4 a5 k
  have ih0 := rat_Cmp.mono_l k
  unfold rat_Cmp.f
  repeat' first
   | with_reducible first
    | exact ih0 _ _ _ _ _ _ _
    | exact rat_Good.mono _ _ _ _
    | exact rat_cross.mono _ _ _ _ _ _ _
    | exact whole_Cmp.mono _ _ _ _ _
    | exact LeO.refl _
    | exact LeO.none _
    | refine LeO.ite ?_ ?_
    | refine LeO.bind ?_ (fun _ => ?_)
   | exact LeO.none _ | refine LeO.ite ?_ ?_ | refine LeO.bind ?_ (fun _ => ?_)
end Go.Proofs.YtjgmmaeafodpmaaGreatDoor.P
set_option linter.unusedVariables false
set_option linter.unusedSimpArgs false
namespace Go.Proofs.YtjgmmaeafodpmaaGreatDoor.P
open Go.RowKit Go.Proofs.YtjgmmaeafodpmaaGreatDoorW.PrintWords Go.Proofs.YtjgmmaeafodpmaaGreatDoorW.PrintLast Go.Proofs.YtjgmmaeafodpmaaGreatDoorW.PrintMore
mutual
def digits_Ten.j0 : Nat → Int → Bool → Option (List Int × Bool)
  | 0, _, _ => none
  | k + 1, x0, x10 => if x10 = true then (some (([] : List Int), false)) else ((nat_Of.f k 1).bind fun t311 => (digits_Ten.l0 k x0 t311))
def digits_Ten.l0 : Nat → Int → List Int → Option (List Int × Bool)
  | 0, _, _ => none
  | k + 1, x0, x4 => if x0 > 0 then (if 0 ≤ (mn x0 9) then (if (mn x0 9) < (tab0_.length : Int) then ((mul_Small.f k x4 (rd tab0_ (mn x0 9))).bind fun t315 => (digits_Ten.l0 k (wrap64 (x0 - 9)) t315)) else (none)) else (none)) else (some (x4, true))
end
def digits_Ten.f (k : Nat) (a0 : Int) : Option (List Int × Bool) := if a0 < 0 then (digits_Ten.j0 k a0 true) else (digits_Ten.j0 k a0 (decide (a0 > 2000)))
theorem digits_Ten.mono_l : ∀ k, (∀ y0 y1, LeO (digits_Ten.j0 k y0 y1) (digits_Ten.j0 (k + 1) y0 y1)) ∧ (∀ y0 y1, LeO (digits_Ten.l0 k y0 y1) (digits_Ten.l0 (k + 1) y0 y1))
  | 0 => ⟨fun _ _ r h => by simp [digits_Ten.j0] at h, fun _ _ r h => by simp [digits_Ten.l0] at h⟩
  | k + 1 => by
    obtain ⟨ih0, ih1⟩ := digits_Ten.mono_l k
    refine ⟨?_, ?_⟩
    · intro y0 y1
      unfold digits_Ten.j0
      repeat' first
       | with_reducible first
        | exact ih0 _ _
        | exact ih1 _ _
        | exact mul_Small.mono _ _ _
        | exact nat_Of.mono _ _
        | exact LeO.refl _
        | exact LeO.none _
        | refine LeO.ite ?_ ?_
        | refine LeO.bind ?_ (fun _ => ?_)
       | exact LeO.none _ | refine LeO.ite ?_ ?_ | refine LeO.bind ?_ (fun _ => ?_)
    · intro y0 y1
      unfold digits_Ten.l0
      repeat' first
       | with_reducible first
        | exact ih0 _ _
        | exact ih1 _ _
        | exact mul_Small.mono _ _ _
        | exact nat_Of.mono _ _
        | exact LeO.refl _
        | exact LeO.none _
        | refine LeO.ite ?_ ?_
        | refine LeO.bind ?_ (fun _ => ?_)
       | exact LeO.none _ | refine LeO.ite ?_ ?_ | refine LeO.bind ?_ (fun _ => ?_)
theorem digits_Ten.mono : ∀ a0 k, LeO (digits_Ten.f k a0) (digits_Ten.f (k + 1) a0) := by
  intro a0 k
  obtain ⟨ih0, ih1⟩ := digits_Ten.mono_l k
  unfold digits_Ten.f
  repeat' first
   | with_reducible first
    | exact ih0 _ _
    | exact ih1 _ _
    | exact mul_Small.mono _ _ _
    | exact nat_Of.mono _ _
    | exact LeO.refl _
    | exact LeO.none _
    | refine LeO.ite ?_ ?_
    | refine LeO.bind ?_ (fun _ => ?_)
   | exact LeO.none _ | refine LeO.ite ?_ ?_ | refine LeO.bind ?_ (fun _ => ?_)
mutual
def digits_Text.l0 : Nat → List Int → List Int → Option (ByteArray)
  | 0, _, _ => none
  | k + 1, x0, x3 => if (x0.length : Int) > 0 then (if 9 < (tab0_.length : Int) then ((quo_Small.f k x0 (rd tab0_ 9)).bind fun bt555 => (digits_Text.l1 k x3 bt555.1 bt555.2.1 0)) else (none)) else (digits_Text.l2 k x3)
def digits_Text.l1 : Nat → List Int → List Int → Int → Int → Option (ByteArray)
  | 0, _, _, _, _ => none
  | k + 1, x3, x4, x5, x20 => if x20 < 9 then (if x3.length < 140737488355328 then (digits_Text.l1 k (x3 ++ [(48 + (Int.tmod x5 10)) % 256]) x4 ((Int.tdiv x5 10) % 4294967296) (wrap64 (x20 + 1))) else (none)) else (digits_Text.l0 k x4 x3)
def digits_Text.l2 : Nat → List Int → Option (ByteArray)
  | 0, _ => none
  | k + 1, x3 => if (x3.length : Int) > 0 then (if 0 ≤ (wrap64 ((x3.length : Int) - 1)) then (if (wrap64 ((x3.length : Int) - 1)) < (x3.length : Int) then (if (rd x3 (wrap64 ((x3.length : Int) - 1))) = 48 then (if (wrap64 ((x3.length : Int) - 1)) ≤ (x3.length : Int) then (digits_Text.l2 k (x3.take ((wrap64 ((x3.length : Int) - 1)) : Int).toNat)) else (none)) else (if (x3.length : Int) = 0 then (some (⟨#[48]⟩ : ByteArray)) else ((slices_Reverse_byte_byte.f k x3).bind fun t567 => (some (strOfNums t567))))) else (none)) else (none)) else (if (x3.length : Int) = 0 then (some (⟨#[48]⟩ : ByteArray)) else ((slices_Reverse_byte_byte.f k x3).bind fun t568 => (some (strOfNums t568))))
end
def digits_Text.f (k : Nat) (l0 : List Int) : Option (ByteArray) := (nat_Trim.f k l0).bind fun t551 => (digits_Text.l0 k t551 ([] : List Int))
theorem digits_Text.mono_l : ∀ k, (∀ y0 y1, LeO (digits_Text.l0 k y0 y1) (digits_Text.l0 (k + 1) y0 y1)) ∧ (∀ y0 y1 y2 y3, LeO (digits_Text.l1 k y0 y1 y2 y3) (digits_Text.l1 (k + 1) y0 y1 y2 y3)) ∧ (∀ y0, LeO (digits_Text.l2 k y0) (digits_Text.l2 (k + 1) y0))
  | 0 => ⟨fun _ _ r h => by simp [digits_Text.l0] at h, fun _ _ _ _ r h => by simp [digits_Text.l1] at h, fun _ r h => by simp [digits_Text.l2] at h⟩
  | k + 1 => by
    obtain ⟨ih0, ih1, ih2⟩ := digits_Text.mono_l k
    refine ⟨?_, ?_, ?_⟩
    · intro y0 y1
      unfold digits_Text.l0
      repeat' first
       | with_reducible first
        | exact ih0 _ _
        | exact ih1 _ _ _ _
        | exact ih2 _
        | exact nat_Trim.mono _ _
        | exact quo_Small.mono _ _ _
        | exact slices_Reverse_byte_byte.mono _ _
        | exact LeO.refl _
        | exact LeO.none _
        | refine LeO.ite ?_ ?_
        | refine LeO.bind ?_ (fun _ => ?_)
       | exact LeO.none _ | refine LeO.ite ?_ ?_ | refine LeO.bind ?_ (fun _ => ?_)
    · intro y0 y1 y2 y3
      unfold digits_Text.l1
      repeat' first
       | with_reducible first
        | exact ih0 _ _
        | exact ih1 _ _ _ _
        | exact ih2 _
        | exact nat_Trim.mono _ _
        | exact quo_Small.mono _ _ _
        | exact slices_Reverse_byte_byte.mono _ _
        | exact LeO.refl _
        | exact LeO.none _
        | refine LeO.ite ?_ ?_
        | refine LeO.bind ?_ (fun _ => ?_)
       | exact LeO.none _ | refine LeO.ite ?_ ?_ | refine LeO.bind ?_ (fun _ => ?_)
    · intro y0
      unfold digits_Text.l2
      repeat' first
       | with_reducible first
        | exact ih0 _ _
        | exact ih1 _ _ _ _
        | exact ih2 _
        | exact nat_Trim.mono _ _
        | exact quo_Small.mono _ _ _
        | exact slices_Reverse_byte_byte.mono _ _
        | exact LeO.refl _
        | exact LeO.none _
        | refine LeO.ite ?_ ?_
        | refine LeO.bind ?_ (fun _ => ?_)
       | exact LeO.none _ | refine LeO.ite ?_ ?_ | refine LeO.bind ?_ (fun _ => ?_)
theorem digits_Text.mono : ∀ a0 k, LeO (digits_Text.f k a0) (digits_Text.f (k + 1) a0) := by
  intro a0 k
  obtain ⟨ih0, ih1, ih2⟩ := digits_Text.mono_l k
  unfold digits_Text.f
  repeat' first
   | with_reducible first
    | exact ih0 _ _
    | exact ih1 _ _ _ _
    | exact ih2 _
    | exact nat_Trim.mono _ _
    | exact quo_Small.mono _ _ _
    | exact slices_Reverse_byte_byte.mono _ _
    | exact LeO.refl _
    | exact LeO.none _
    | refine LeO.ite ?_ ?_
    | refine LeO.bind ?_ (fun _ => ?_)
   | exact LeO.none _ | refine LeO.ite ?_ ?_ | refine LeO.bind ?_ (fun _ => ?_)
end Go.Proofs.YtjgmmaeafodpmaaGreatDoor.P
set_option linter.unusedVariables false
set_option linter.unusedSimpArgs false
namespace Go.Proofs.YtjgmmaeafodpmaaGreatDoor.P
open Go.RowKit Go.Proofs.YtjgmmaeafodpmaaGreatDoorW.PrintWords Go.Proofs.YtjgmmaeafodpmaaGreatDoorW.PrintLast Go.Proofs.YtjgmmaeafodpmaaGreatDoorW.PrintMore
def decimal_split.j0 : Nat → Int → Bool → Bool → List Int → List Int → Option (Bool × List Int × Bool × List Int × Int × Int)
  | 0, _, _, _, _, _ => none
  | k + 1, x1, x23, x496000, x496001, x496002 => if x23 = true then (some (false, ([] : List Int), false, ([] : List Int), 0, 1)) else ((digits_Ten.f k x1).bind fun bt499 => ((mul_Of.f k x496001 bt499.1).bind fun t503 => ((quo_Rem.f k t503 x496002).bind fun bt506 => ((nat_Add.f k bt506.2.1 bt506.2.1).bind fun t513 => ((nat_Cmp.f k t513 x496002).bind fun t516 => ((whole_Trim.f k x496000 bt506.1).bind fun bt517 => (if (bt506.2.1.length : Int) = 0 then (some (bt517.1, bt517.2, bt517.1, bt517.2, t516, 0)) else (if x496000 = true then ((whole_Of.f k (-1)).bind fun bt521 => ((whole_Add.f k bt517.1 bt517.2 bt521.1 bt521.2).bind fun bt525 => (some (bt525.1, bt525.2, bt517.1, bt517.2, wrap64 (-t516), 0)))) else ((whole_Of.f k 1).bind fun bt529 => ((whole_Add.f k bt517.1 bt517.2 bt529.1 bt529.2).bind fun bt533 => (some (bt517.1, bt517.2, bt533.1, bt533.2, t516, 0))))))))))))
def decimal_split.f (k : Nat) (a0_0 : Bool) (l0_1 : List Int) (l0_2 : List Int) (a1 : Int) : Option (Bool × List Int × Bool × List Int × Int × Int) := (rat_Good.f k a0_0 l0_1 l0_2).bind fun t498 => (if t498 = true then (if a1 < 0 then (decimal_split.j0 k a1 true a0_0 l0_1 l0_2) else (decimal_split.j0 k a1 (decide (a1 > 60)) a0_0 l0_1 l0_2)) else (decimal_split.j0 k a1 true a0_0 l0_1 l0_2))
theorem decimal_split.mono_l : ∀ k, (∀ y0 y1 y2 y3 y4, LeO (decimal_split.j0 k y0 y1 y2 y3 y4) (decimal_split.j0 (k + 1) y0 y1 y2 y3 y4))
  | 0 => fun _ _ _ _ _ r h => by simp [decimal_split.j0] at h
  | k + 1 => by
    have ih0 := decimal_split.mono_l k
    · intro y0 y1 y2 y3 y4
      unfold decimal_split.j0
      repeat' first
       | with_reducible first
        | exact ih0 _ _ _ _ _
        | exact digits_Ten.mono _ _
        | exact mul_Of.mono _ _ _
        | exact nat_Add.mono _ _ _
        | exact nat_Cmp.mono _ _ _
        | exact quo_Rem.mono _ _ _
        | exact rat_Good.mono _ _ _ _
        | exact whole_Add.mono _ _ _ _ _
        | exact whole_Of.mono _ _
        | exact whole_Trim.mono _ _ _
        | exact LeO.refl _
        | exact LeO.none _
        | refine LeO.ite ?_ ?_
        | refine LeO.bind ?_ (fun _ => ?_)
       | exact LeO.none _ | refine LeO.ite ?_ ?_ | refine LeO.bind ?_ (fun _ => ?_)
theorem decimal_split.mono : ∀ a0 a1 a2 a3 k, LeO (decimal_split.f k a0 a1 a2 a3) (decimal_split.f (k + 1) a0 a1 a2 a3) := by
  intro a0 a1 a2 a3 k
  have ih0 := decimal_split.mono_l k
  unfold decimal_split.f
  repeat' first
   | with_reducible first
    | exact ih0 _ _ _ _ _
    | exact digits_Ten.mono _ _
    | exact mul_Of.mono _ _ _
    | exact nat_Add.mono _ _ _
    | exact nat_Cmp.mono _ _ _
    | exact quo_Rem.mono _ _ _
    | exact rat_Good.mono _ _ _ _
    | exact whole_Add.mono _ _ _ _ _
    | exact whole_Of.mono _ _
    | exact whole_Trim.mono _ _ _
    | exact LeO.refl _
    | exact LeO.none _
    | refine LeO.ite ?_ ?_
    | refine LeO.bind ?_ (fun _ => ?_)
   | exact LeO.none _ | refine LeO.ite ?_ ?_ | refine LeO.bind ?_ (fun _ => ?_)
def decimal_text.j0 : Nat → Int → ByteArray → Bool → List Int → Option (ByteArray)
  | 0, _, _, _, _ => none
  | k + 1, x1, x5, x573000, x573001 => if 0 ≤ (x5.size : Int) then (if ((x5.size : Int) : Int).toNat ≤ 281474976710656 then ((some (List.replicate ((x5.size : Int) : Int).toNat 0 : List Int)).bind fun y575 => ((some (cpy y575 0 (btes x5) : List Int)).bind fun y578 => (if 0 ≤ (wrap64 ((y575.length : Int) - x1)) then (if (wrap64 ((y575.length : Int) - x1)) ≤ (y575.length : Int) then ((some (y578.take ((wrap64 ((y575.length : Int) - x1)) : Int).toNat : List Int)).bind fun y579 => (if x1 > 0 then ((some (y578.drop ((wrap64 ((y575.length : Int) - x1)) : Int).toNat : List Int)).bind fun y583 => (if 1 + (strOfNums y583).size ≤ 9223372036854775807 then (if (strOfNums y579).size + ((⟨#[46]⟩ : ByteArray) ++ (strOfNums y583)).size ≤ 9223372036854775807 then (if x573000 = true then (if 1 + ((strOfNums y579) ++ ((⟨#[46]⟩ : ByteArray) ++ (strOfNums y583))).size ≤ 9223372036854775807 then (some ((⟨#[45]⟩ : ByteArray) ++ ((strOfNums y579) ++ ((⟨#[46]⟩ : ByteArray) ++ (strOfNums y583))))) else (none)) else (some ((strOfNums y579) ++ ((⟨#[46]⟩ : ByteArray) ++ (strOfNums y583))))) else (none)) else (none))) else (if x573000 = true then (if 1 + (strOfNums y579).size ≤ 9223372036854775807 then (some ((⟨#[45]⟩ : ByteArray) ++ (strOfNums y579))) else (none)) else (some (strOfNums y579))))) else (none)) else (none)))) else (none)) else (none)
def decimal_text.f (k : Nat) (a0_0 : Bool) (l0_1 : List Int) (a1 : Int) : Option (ByteArray) := (digits_Text.f k l0_1).bind fun t573 => (if (wrap64 ((wrap64 (a1 + 1)) - (t573.size : Int))) > 0 then ((strings_Repeat.f (⟨#[48]⟩ : ByteArray) (wrap64 ((wrap64 (a1 + 1)) - (t573.size : Int)))).bind fun t574 => (if t574.size + t573.size ≤ 9223372036854775807 then (decimal_text.j0 k a1 (t574 ++ t573) a0_0 l0_1) else (none))) else (decimal_text.j0 k a1 t573 a0_0 l0_1))
theorem decimal_text.mono_l : ∀ k, (∀ y0 y1 y2 y3, LeO (decimal_text.j0 k y0 y1 y2 y3) (decimal_text.j0 (k + 1) y0 y1 y2 y3))
  | 0 => fun _ _ _ _ r h => by simp [decimal_text.j0] at h
  | k + 1 => by
    have ih0 := decimal_text.mono_l k
    · intro y0 y1 y2 y3
      unfold decimal_text.j0
      repeat' first
       | with_reducible first
        | exact ih0 _ _ _ _
        | exact digits_Text.mono _ _
        | exact LeO.refl _
        | exact LeO.none _
        | refine LeO.ite ?_ ?_
        | refine LeO.bind ?_ (fun _ => ?_)
       | exact LeO.none _ | refine LeO.ite ?_ ?_ | refine LeO.bind ?_ (fun _ => ?_)
theorem decimal_text.mono : ∀ a0 a1 a2 k, LeO (decimal_text.f k a0 a1 a2) (decimal_text.f (k + 1) a0 a1 a2) := by
  intro a0 a1 a2 k
  have ih0 := decimal_text.mono_l k
  unfold decimal_text.f
  repeat' first
   | with_reducible first
    | exact ih0 _ _ _ _
    | exact digits_Text.mono _ _
    | exact LeO.refl _
    | exact LeO.none _
    | refine LeO.ite ?_ ?_
    | refine LeO.bind ?_ (fun _ => ?_)
   | exact LeO.none _ | refine LeO.ite ?_ ?_ | refine LeO.bind ?_ (fun _ => ?_)
def decimal_Down.f (k : Nat) (a0_0 : Bool) (l0_1 : List Int) (l0_2 : List Int) (a1 : Int) : Option (ByteArray × Int) := (decimal_split.f k a0_0 l0_1 l0_2 a1).bind fun bt588 => (if bt588.2.2.2.2.2 = 0 then ((decimal_text.f k bt588.1 bt588.2.1 a1).bind fun t600 => (some (t600, 0))) else (some ((⟨#[]⟩ : ByteArray), bt588.2.2.2.2.2)))
theorem decimal_Down.mono : ∀ a0 a1 a2 a3 k, LeO (decimal_Down.f k a0 a1 a2 a3) (decimal_Down.f (k + 1) a0 a1 a2 a3) := by
  intro a0 a1 a2 a3 k
  unfold decimal_Down.f
  repeat' first
   | with_reducible first
    | exact decimal_split.mono _ _ _ _ _
    | exact decimal_text.mono _ _ _ _
    | exact LeO.refl _
    | exact LeO.none _
    | refine LeO.ite ?_ ?_
    | refine LeO.bind ?_ (fun _ => ?_)
   | exact LeO.none _ | refine LeO.ite ?_ ?_ | refine LeO.bind ?_ (fun _ => ?_)
end Go.Proofs.YtjgmmaeafodpmaaGreatDoor.P
set_option linter.unusedVariables false
set_option linter.unusedSimpArgs false
namespace Go.Proofs.YtjgmmaeafodpmaaGreatDoor.P
open Go.RowKit Go.Proofs.YtjgmmaeafodpmaaGreatDoorW.PrintWords Go.Proofs.YtjgmmaeafodpmaaGreatDoorW.PrintLast Go.Proofs.YtjgmmaeafodpmaaGreatDoorW.PrintMore
def root_power.f (a0 : Int) : Option (List Int) := if 0 ≤ (wrap64 ((wrap64 (Int.tdiv a0 32)) + 1)) then (if (wrap64 ((wrap64 (Int.tdiv a0 32)) + 1) : Int).toNat ≤ 70368744177664 then ((some (List.replicate (wrap64 ((wrap64 (Int.tdiv a0 32)) + 1) : Int).toNat 0 : List Int)).bind fun y358 => (if 0 ≤ (Int.tmod a0 32) then (if 0 ≤ (wrap64 (Int.tdiv a0 32)) then (if (wrap64 (Int.tdiv a0 32)) < (y358.length : Int) then (some (y358.set ((wrap64 (Int.tdiv a0 32)) : Int).toNat (shl .u32 1 (Int.tmod a0 32)))) else (none)) else (none)) else (none))) else (none)) else (none)
def root_Floor.l0 : Nat → List Int → List Int → Option (List Int × Bool)
  | 0, _, _ => none
  | k + 1, x0, x2 => (quo_Rem.f k x0 x2).bind fun bt372 => ((nat_Add.f k x2 bt372.1).bind fun t379 => ((mul_Shift.f k t379 (-1)).bind fun t382 => ((nat_Cmp.f k t382 x2).bind fun t385 => (if t385 ≥ 0 then ((mul_Of.f k x2 x2).bind fun t386 => ((nat_Cmp.f k t386 x0).bind fun t389 => (some (x2, (t389 == 0))))) else (if 0 ≤ (t382.length : Int) then (if ((t382.length : Int) : Int).toNat ≤ 70368744177664 then (root_Floor.l0 k x0 (cpy (List.replicate ((t382.length : Int) : Int).toNat 0) 0 t382)) else (none)) else (none))))))
def root_Floor.f (k : Nat) (l0 : List Int) : Option (List Int × Bool) := (nat_Trim.f k l0).bind fun t365 => (if (t365.length : Int) = 0 then (some (t365, true)) else ((nat_Bits.f k t365).bind fun t368 => ((root_power.f (wrap64 (Int.tdiv (wrap64 (t368 + 1)) 2))).bind fun t369 => (root_Floor.l0 k t365 t369))))
theorem root_Floor.mono_l : ∀ k, (∀ y0 y1, LeO (root_Floor.l0 k y0 y1) (root_Floor.l0 (k + 1) y0 y1))
  | 0 => fun _ _ r h => by simp [root_Floor.l0] at h
  | k + 1 => by
    have ih0 := root_Floor.mono_l k
    · intro y0 y1
      unfold root_Floor.l0
      repeat' first
       | with_reducible first
        | exact ih0 _ _
        | exact mul_Of.mono _ _ _
        | exact mul_Shift.mono _ _ _
        | exact nat_Add.mono _ _ _
        | exact nat_Bits.mono _ _
        | exact nat_Cmp.mono _ _ _
        | exact nat_Trim.mono _ _
        | exact quo_Rem.mono _ _ _
        | exact LeO.refl _
        | exact LeO.none _
        | refine LeO.ite ?_ ?_
        | refine LeO.bind ?_ (fun _ => ?_)
       | exact LeO.none _ | refine LeO.ite ?_ ?_ | refine LeO.bind ?_ (fun _ => ?_)
theorem root_Floor.mono : ∀ a0 k, LeO (root_Floor.f k a0) (root_Floor.f (k + 1) a0) := by
  intro a0 k
  have ih0 := root_Floor.mono_l k
  unfold root_Floor.f
  repeat' first
   | with_reducible first
    | exact ih0 _ _
    | exact mul_Of.mono _ _ _
    | exact mul_Shift.mono _ _ _
    | exact nat_Add.mono _ _ _
    | exact nat_Bits.mono _ _
    | exact nat_Cmp.mono _ _ _
    | exact nat_Trim.mono _ _
    | exact quo_Rem.mono _ _ _
    | exact LeO.refl _
    | exact LeO.none _
    | refine LeO.ite ?_ ?_
    | refine LeO.bind ?_ (fun _ => ?_)
   | exact LeO.none _ | refine LeO.ite ?_ ?_ | refine LeO.bind ?_ (fun _ => ?_)
end Go.Proofs.YtjgmmaeafodpmaaGreatDoor.P
set_option linter.unusedVariables false
set_option linter.unusedSimpArgs false
namespace Go.Proofs.YtjgmmaeafodpmaaGreatDoor.P
open Go.RowKit Go.Proofs.YtjgmmaeafodpmaaGreatDoorW.PrintWords Go.Proofs.YtjgmmaeafodpmaaGreatDoorW.PrintLast Go.Proofs.YtjgmmaeafodpmaaGreatDoorW.PrintMore
mutual
def enclose_Root.j0 : Nat → Int → Bool → Bool → List Int → List Int → Option (Bool × List Int × List Int × Bool × List Int × List Int × Int)
  | 0, _, _, _, _, _ => none
  | k + 1, x1, x15, x395000, x395001, x395002 => if x15 = true then (some (false, ([] : List Int), ([] : List Int), false, ([] : List Int), ([] : List Int), 1)) else ((rat_Sign.f k x395000 x395001 x395002).bind fun t398 => (if t398 < 0 then (some (false, ([] : List Int), ([] : List Int), false, ([] : List Int), ([] : List Int), 18)) else ((digits_Ten.f k x1).bind fun bt399 => ((mul_Of.f k bt399.1 bt399.1).bind fun t403 => ((mul_Of.f k x395001 t403).bind fun t406 => ((quo_Rem.f k t406 x395002).bind fun bt409 => ((root_Floor.f k bt409.1).bind fun bt416 => (if 0 ≤ (bt416.1.length : Int) then (if ((bt416.1.length : Int) : Int).toNat ≤ 70368744177664 then ((some (cpy (List.replicate ((bt416.1.length : Int) : Int).toNat 0) 0 bt416.1 : List Int)).bind fun y423 => (if bt416.2 = true then (enclose_Root.j1 k bt399.1 bt416.1 y423 (decide ((bt409.2.1.length : Int) > 0))) else (enclose_Root.j1 k bt399.1 bt416.1 y423 true))) else (none)) else (none)))))))))
def enclose_Root.j1 : Nat → List Int → List Int → List Int → Bool → Option (Bool × List Int × List Int × Bool × List Int × List Int × Int)
  | 0, _, _, _, _ => none
  | k + 1, x7, x12, x14, x71 => if x71 = true then ((nat_Of.f k 1).bind fun t424 => ((nat_Add.f k x12 t424).bind fun t427 => (enclose_Root.j2 k x7 x12 t427))) else (enclose_Root.j2 k x7 x12 x14)
def enclose_Root.j2 : Nat → List Int → List Int → List Int → Option (Bool × List Int × List Int × Bool × List Int × List Int × Int)
  | 0, _, _, _ => none
  | k + 1, x7, x12, x14 => (rat_Of.f k false x12 x7).bind fun bt430 => (if bt430.2.2.2 = 0 then ((rat_Of.f k false x14 x7).bind fun bt438 => (if bt438.2.2.2 = 0 then (some (bt430.1, bt430.2.1, bt430.2.2.1, bt438.1, bt438.2.1, bt438.2.2.1, 0)) else (some (false, ([] : List Int), ([] : List Int), false, ([] : List Int), ([] : List Int), bt438.2.2.2)))) else (some (false, ([] : List Int), ([] : List Int), false, ([] : List Int), ([] : List Int), bt430.2.2.2)))
end
def enclose_Root.f (k : Nat) (a0_0 : Bool) (l0_1 : List Int) (l0_2 : List Int) (a1 : Int) : Option (Bool × List Int × List Int × Bool × List Int × List Int × Int) := (rat_Good.f k a0_0 l0_1 l0_2).bind fun t397 => (if t397 = true then (if a1 < 0 then (enclose_Root.j0 k a1 true a0_0 l0_1 l0_2) else (enclose_Root.j0 k a1 (decide (a1 > 60)) a0_0 l0_1 l0_2)) else (enclose_Root.j0 k a1 true a0_0 l0_1 l0_2))
theorem enclose_Root.mono_l : ∀ k, (∀ y0 y1 y2 y3 y4, LeO (enclose_Root.j0 k y0 y1 y2 y3 y4) (enclose_Root.j0 (k + 1) y0 y1 y2 y3 y4)) ∧ (∀ y0 y1 y2 y3, LeO (enclose_Root.j1 k y0 y1 y2 y3) (enclose_Root.j1 (k + 1) y0 y1 y2 y3)) ∧ (∀ y0 y1 y2, LeO (enclose_Root.j2 k y0 y1 y2) (enclose_Root.j2 (k + 1) y0 y1 y2))
  | 0 => ⟨fun _ _ _ _ _ r h => by simp [enclose_Root.j0] at h, fun _ _ _ _ r h => by simp [enclose_Root.j1] at h, fun _ _ _ r h => by simp [enclose_Root.j2] at h⟩
  | k + 1 => by
    obtain ⟨ih0, ih1, ih2⟩ := enclose_Root.mono_l k
    refine ⟨?_, ?_, ?_⟩
    · intro y0 y1 y2 y3 y4
      unfold enclose_Root.j0
      repeat' first
       | with_reducible first
        | exact ih0 _ _ _ _ _
        | exact ih1 _ _ _ _
        | exact ih2 _ _ _
        | exact digits_Ten.mono _ _
        | exact mul_Of.mono _ _ _
        | exact nat_Add.mono _ _ _
        | exact nat_Of.mono _ _
        | exact quo_Rem.mono _ _ _
        | exact rat_Good.mono _ _ _ _
        | exact rat_Of.mono _ _ _ _
        | exact rat_Sign.mono _ _ _ _
        | exact root_Floor.mono _ _
        | exact LeO.refl _
        | exact LeO.none _
        | refine LeO.ite ?_ ?_
        | refine LeO.bind ?_ (fun _ => ?_)
       | exact LeO.none _ | refine LeO.ite ?_ ?_ | refine LeO.bind ?_ (fun _ => ?_)
    · intro y0 y1 y2 y3
      unfold enclose_Root.j1
      repeat' first
       | with_reducible first
        | exact ih0 _ _ _ _ _
        | exact ih1 _ _ _ _
        | exact ih2 _ _ _
        | exact digits_Ten.mono _ _
        | exact mul_Of.mono _ _ _
        | exact nat_Add.mono _ _ _
        | exact nat_Of.mono _ _
        | exact quo_Rem.mono _ _ _
        | exact rat_Good.mono _ _ _ _
        | exact rat_Of.mono _ _ _ _
        | exact rat_Sign.mono _ _ _ _
        | exact root_Floor.mono _ _
        | exact LeO.refl _
        | exact LeO.none _
        | refine LeO.ite ?_ ?_
        | refine LeO.bind ?_ (fun _ => ?_)
       | exact LeO.none _ | refine LeO.ite ?_ ?_ | refine LeO.bind ?_ (fun _ => ?_)
    · intro y0 y1 y2
      unfold enclose_Root.j2
      repeat' first
       | with_reducible first
        | exact ih0 _ _ _ _ _
        | exact ih1 _ _ _ _
        | exact ih2 _ _ _
        | exact digits_Ten.mono _ _
        | exact mul_Of.mono _ _ _
        | exact nat_Add.mono _ _ _
        | exact nat_Of.mono _ _
        | exact quo_Rem.mono _ _ _
        | exact rat_Good.mono _ _ _ _
        | exact rat_Of.mono _ _ _ _
        | exact rat_Sign.mono _ _ _ _
        | exact root_Floor.mono _ _
        | exact LeO.refl _
        | exact LeO.none _
        | refine LeO.ite ?_ ?_
        | refine LeO.bind ?_ (fun _ => ?_)
       | exact LeO.none _ | refine LeO.ite ?_ ?_ | refine LeO.bind ?_ (fun _ => ?_)
theorem enclose_Root.mono : ∀ a0 a1 a2 a3 k, LeO (enclose_Root.f k a0 a1 a2 a3) (enclose_Root.f (k + 1) a0 a1 a2 a3) := by
  intro a0 a1 a2 a3 k
  obtain ⟨ih0, ih1, ih2⟩ := enclose_Root.mono_l k
  unfold enclose_Root.f
  repeat' first
   | with_reducible first
    | exact ih0 _ _ _ _ _
    | exact ih1 _ _ _ _
    | exact ih2 _ _ _
    | exact digits_Ten.mono _ _
    | exact mul_Of.mono _ _ _
    | exact nat_Add.mono _ _ _
    | exact nat_Of.mono _ _
    | exact quo_Rem.mono _ _ _
    | exact rat_Good.mono _ _ _ _
    | exact rat_Of.mono _ _ _ _
    | exact rat_Sign.mono _ _ _ _
    | exact root_Floor.mono _ _
    | exact LeO.refl _
    | exact LeO.none _
    | refine LeO.ite ?_ ?_
    | refine LeO.bind ?_ (fun _ => ?_)
   | exact LeO.none _ | refine LeO.ite ?_ ?_ | refine LeO.bind ?_ (fun _ => ?_)
def enclose_Text.j0 : Nat → Int → ByteArray → Int → Bool → List Int → List Int → Option (ByteArray × ByteArray × Int)
  | 0, _, _, _, _, _, _ => none
  | k + 1, x1, x4, x6, x619000, x619001, x619002 => if x6 = 0 then ((decimal_Down.f k x619000 x619001 x619002 x1).bind fun bt621 => (if bt621.2 = 0 then (some (x4, bt621.1, 0)) else (some ((⟨#[]⟩ : ByteArray), (⟨#[]⟩ : ByteArray), bt621.2)))) else (some ((⟨#[]⟩ : ByteArray), (⟨#[]⟩ : ByteArray), x6))
def enclose_Text.f (k : Nat) (a0_0 : Bool) (l0_1 : List Int) (l0_2 : List Int) (a1 : Int) : Option (ByteArray × ByteArray × Int) := (enclose_Root.f k a0_0 l0_1 l0_2 a1).bind fun bt602 => (if bt602.2.2.2.2.2.2 = 0 then ((decimal_Down.f k bt602.1 bt602.2.1 bt602.2.2.1 a1).bind fun bt619 => (enclose_Text.j0 k a1 bt619.1 bt619.2 bt602.2.2.2.1 bt602.2.2.2.2.1 bt602.2.2.2.2.2.1)) else (enclose_Text.j0 k a1 (⟨#[]⟩ : ByteArray) bt602.2.2.2.2.2.2 bt602.2.2.2.1 bt602.2.2.2.2.1 bt602.2.2.2.2.2.1))
theorem enclose_Text.mono_l : ∀ k, (∀ y0 y1 y2 y3 y4 y5, LeO (enclose_Text.j0 k y0 y1 y2 y3 y4 y5) (enclose_Text.j0 (k + 1) y0 y1 y2 y3 y4 y5))
  | 0 => fun _ _ _ _ _ _ r h => by simp [enclose_Text.j0] at h
  | k + 1 => by
    have ih0 := enclose_Text.mono_l k
    · intro y0 y1 y2 y3 y4 y5
      unfold enclose_Text.j0
      repeat' first
       | with_reducible first
        | exact ih0 _ _ _ _ _ _
        | exact decimal_Down.mono _ _ _ _ _
        | exact enclose_Root.mono _ _ _ _ _
        | exact LeO.refl _
        | exact LeO.none _
        | refine LeO.ite ?_ ?_
        | refine LeO.bind ?_ (fun _ => ?_)
       | exact LeO.none _ | refine LeO.ite ?_ ?_ | refine LeO.bind ?_ (fun _ => ?_)
theorem enclose_Text.mono : ∀ a0 a1 a2 a3 k, LeO (enclose_Text.f k a0 a1 a2 a3) (enclose_Text.f (k + 1) a0 a1 a2 a3) := by
  intro a0 a1 a2 a3 k
  have ih0 := enclose_Text.mono_l k
  unfold enclose_Text.f
  repeat' first
   | with_reducible first
    | exact ih0 _ _ _ _ _ _
    | exact decimal_Down.mono _ _ _ _ _
    | exact enclose_Root.mono _ _ _ _ _
    | exact LeO.refl _
    | exact LeO.none _
    | refine LeO.ite ?_ ?_
    | refine LeO.bind ?_ (fun _ => ?_)
   | exact LeO.none _ | refine LeO.ite ?_ ?_ | refine LeO.bind ?_ (fun _ => ?_)
end Go.Proofs.YtjgmmaeafodpmaaGreatDoor.P
set_option linter.unusedVariables false
set_option linter.unusedSimpArgs false
namespace Go.Proofs.YtjgmmaeafodpmaaGreatDoor.P
open Go.RowKit Go.Proofs.YtjgmmaeafodpmaaGreatDoorW.PrintWords Go.Proofs.YtjgmmaeafodpmaaGreatDoorW.PrintLast Go.Proofs.YtjgmmaeafodpmaaGreatDoorW.PrintMore
def steelyardkeep_Nat.l0 : Nat → List Int → List Int → Int → Option (Bool)
  | 0, _, _, _ => none
  | k + 1, x0, x1, x5 => if x5 < (x0.length : Int) then (if 0 ≤ x5 then (if x5 < (x1.length : Int) then (if (rd x0 x5) = (rd x1 x5) then (steelyardkeep_Nat.l0 k x0 x1 (wrap64 (x5 + 1))) else (some false)) else (none)) else (none)) else (some true)
def steelyardkeep_Nat.f (k : Nat) (l0 : List Int) (l1 : List Int) : Option (Bool) := if (l0.length : Int) = (l1.length : Int) then (steelyardkeep_Nat.l0 k l0 l1 0) else (some false)
theorem steelyardkeep_Nat.mono_l : ∀ k, (∀ y0 y1 y2, LeO (steelyardkeep_Nat.l0 k y0 y1 y2) (steelyardkeep_Nat.l0 (k + 1) y0 y1 y2))
  | 0 => fun _ _ _ r h => by simp [steelyardkeep_Nat.l0] at h
  | k + 1 => by
    have ih0 := steelyardkeep_Nat.mono_l k
    · intro y0 y1 y2
      unfold steelyardkeep_Nat.l0
      repeat' first
       | with_reducible first
        | exact ih0 _ _ _
        | exact LeO.refl _
        | exact LeO.none _
        | refine LeO.ite ?_ ?_
        | refine LeO.bind ?_ (fun _ => ?_)
       | exact LeO.none _ | refine LeO.ite ?_ ?_ | refine LeO.bind ?_ (fun _ => ?_)
theorem steelyardkeep_Nat.mono : ∀ a0 a1 k, LeO (steelyardkeep_Nat.f k a0 a1) (steelyardkeep_Nat.f (k + 1) a0 a1) := by
  intro a0 a1 k
  have ih0 := steelyardkeep_Nat.mono_l k
  unfold steelyardkeep_Nat.f
  repeat' first
   | with_reducible first
    | exact ih0 _ _ _
    | exact LeO.refl _
    | exact LeO.none _
    | refine LeO.ite ?_ ?_
    | refine LeO.bind ?_ (fun _ => ?_)
   | exact LeO.none _ | refine LeO.ite ?_ ?_ | refine LeO.bind ?_ (fun _ => ?_)
def steelyardkeep_Int.f (k : Nat) (a0_0 : Bool) (l0_1 : List Int) (a1_0 : Bool) (l1_1 : List Int) : Option (Bool) := if (a0_0 == a1_0) = true then ((steelyardkeep_Nat.f k l0_1 l1_1).bind fun t627 => (some t627)) else (some false)
theorem steelyardkeep_Int.mono : ∀ a0 a1 a2 a3 k, LeO (steelyardkeep_Int.f k a0 a1 a2 a3) (steelyardkeep_Int.f (k + 1) a0 a1 a2 a3) := by
  intro a0 a1 a2 a3 k
  unfold steelyardkeep_Int.f
  repeat' first
   | with_reducible first
    | exact steelyardkeep_Nat.mono _ _ _
    | exact LeO.refl _
    | exact LeO.none _
    | refine LeO.ite ?_ ?_
    | refine LeO.bind ?_ (fun _ => ?_)
   | exact LeO.none _ | refine LeO.ite ?_ ?_ | refine LeO.bind ?_ (fun _ => ?_)
def steelyardkeep_Rat.f (k : Nat) (a0_0 : Bool) (l0_1 : List Int) (l0_2 : List Int) (a1_0 : Bool) (l1_1 : List Int) (l1_2 : List Int) : Option (Bool) := (steelyardkeep_Int.f k a0_0 l0_1 a1_0 l1_1).bind fun t630 => (if t630 = true then ((steelyardkeep_Nat.f k l0_2 l1_2).bind fun t631 => (some t631)) else (some false))
theorem steelyardkeep_Rat.mono : ∀ a0 a1 a2 a3 a4 a5 k, LeO (steelyardkeep_Rat.f k a0 a1 a2 a3 a4 a5) (steelyardkeep_Rat.f (k + 1) a0 a1 a2 a3 a4 a5) := by
  intro a0 a1 a2 a3 a4 a5 k
  unfold steelyardkeep_Rat.f
  repeat' first
   | with_reducible first
    | exact steelyardkeep_Int.mono _ _ _ _ _
    | exact steelyardkeep_Nat.mono _ _ _
    | exact LeO.refl _
    | exact LeO.none _
    | refine LeO.ite ?_ ?_
    | refine LeO.bind ?_ (fun _ => ?_)
   | exact LeO.none _ | refine LeO.ite ?_ ?_ | refine LeO.bind ?_ (fun _ => ?_)
def steelyardkeep_OwnNat.f (l0 : List Int) : Option (List Int) := (some (([] : List Int) : List Int)).bind fun y1026 => (if y1026.length + l0.length < 35184372088832 then (some (y1026 ++ l0)) else (none))
def steelyardkeep_OwnInt.f (a0_0 : Bool) (l0_1 : List Int) : Option (Bool × List Int) := (steelyardkeep_OwnNat.f l0_1).bind fun t1034 => (some (a0_0, t1034))
def steelyardkeep_OwnRat.f (a0_0 : Bool) (l0_1 : List Int) (l0_2 : List Int) : Option (Bool × List Int × List Int) := (steelyardkeep_OwnInt.f a0_0 l0_1).bind fun bt1039 => ((steelyardkeep_OwnNat.f l0_2).bind fun t1043 => (some (bt1039.1, bt1039.2, t1043)))
end Go.Proofs.YtjgmmaeafodpmaaGreatDoor.P
set_option linter.unusedVariables false
set_option linter.unusedSimpArgs false
namespace Go.Proofs.YtjgmmaeafodpmaaGreatDoor.P
open Go.RowKit Go.Proofs.YtjgmmaeafodpmaaGreatDoorW.PrintWords Go.Proofs.YtjgmmaeafodpmaaGreatDoorW.PrintLast Go.Proofs.YtjgmmaeafodpmaaGreatDoorW.PrintMore
def steelyardref01_Trim.l0 : Nat → List Int → Int → Option (List Int)
  | 0, _, _ => none
  | k + 1, x0, x3 => if x3 > 0 then (if 0 ≤ (wrap64 (x3 - 1)) then (if (wrap64 (x3 - 1)) < (x0.length : Int) then (if (rd x0 (wrap64 (x3 - 1))) = 0 then (steelyardref01_Trim.l0 k x0 (wrap64 (x3 - 1))) else ((some (([] : List Int) : List Int)).bind fun y633 => (if 0 ≤ x3 then (if x3 ≤ (x0.length : Int) then (if y633.length + (x0.take (x3 : Int).toNat).length < 35184372088832 then (some (y633 ++ (x0.take (x3 : Int).toNat))) else (none)) else (none)) else (none)))) else (none)) else (none)) else ((some (([] : List Int) : List Int)).bind fun y640 => (if 0 ≤ x3 then (if x3 ≤ (x0.length : Int) then (if y640.length + (x0.take (x3 : Int).toNat).length < 35184372088832 then (some (y640 ++ (x0.take (x3 : Int).toNat))) else (none)) else (none)) else (none)))
def steelyardref01_Trim.f (k : Nat) (l0 : List Int) : Option (List Int) := steelyardref01_Trim.l0 k l0 (l0.length : Int)
theorem steelyardref01_Trim.mono_l : ∀ k, (∀ y0 y1, LeO (steelyardref01_Trim.l0 k y0 y1) (steelyardref01_Trim.l0 (k + 1) y0 y1))
  | 0 => fun _ _ r h => by simp [steelyardref01_Trim.l0] at h
  | k + 1 => by
    have ih0 := steelyardref01_Trim.mono_l k
    · intro y0 y1
      unfold steelyardref01_Trim.l0
      repeat' first
       | with_reducible first
        | exact ih0 _ _
        | exact LeO.refl _
        | exact LeO.none _
        | refine LeO.ite ?_ ?_
        | refine LeO.bind ?_ (fun _ => ?_)
       | exact LeO.none _ | refine LeO.ite ?_ ?_ | refine LeO.bind ?_ (fun _ => ?_)
theorem steelyardref01_Trim.mono : ∀ a0 k, LeO (steelyardref01_Trim.f k a0) (steelyardref01_Trim.f (k + 1) a0) := by
  intro a0 k
  have ih0 := steelyardref01_Trim.mono_l k
  unfold steelyardref01_Trim.f
  repeat' first
   | with_reducible first
    | exact ih0 _ _
    | exact LeO.refl _
    | exact LeO.none _
    | refine LeO.ite ?_ ?_
    | refine LeO.bind ?_ (fun _ => ?_)
   | exact LeO.none _ | refine LeO.ite ?_ ?_ | refine LeO.bind ?_ (fun _ => ?_)
def steelyardref01_Of.f (k : Nat) (a0 : Int) : Option (List Int) := (steelyardref01_Trim.f k (([(a0) % 4294967296, (a0 / 4294967296) % 4294967296] : List Int))).bind fun t654 => (some t654)
theorem steelyardref01_Of.mono : ∀ a0 k, LeO (steelyardref01_Of.f k a0) (steelyardref01_Of.f (k + 1) a0) := by
  intro a0 k
  unfold steelyardref01_Of.f
  repeat' first
   | with_reducible first
    | exact steelyardref01_Trim.mono _ _
    | exact LeO.refl _
    | exact LeO.none _
    | refine LeO.ite ?_ ?_
    | refine LeO.bind ?_ (fun _ => ?_)
   | exact LeO.none _ | refine LeO.ite ?_ ?_ | refine LeO.bind ?_ (fun _ => ?_)
def steelyardref01_at.f (l0 : List Int) (a1 : Int) : Option (Int) := if a1 ≥ (l0.length : Int) then (some 0) else (if 0 ≤ a1 then (if a1 < (l0.length : Int) then (some (IntKind.u64.wrap (rd l0 a1))) else (none)) else (none))
def steelyardref01_Cmp.l0 : Nat → List Int → List Int → Int → Option (Int)
  | 0, _, _, _ => none
  | k + 1, x0, x1, x5 => if x5 ≥ 0 then ((steelyardref01_at.f x0 x5).bind fun t682 => ((steelyardref01_at.f x1 x5).bind fun t683 => (if t682 < t683 then (some (-1)) else ((steelyardref01_at.f x0 x5).bind fun t684 => ((steelyardref01_at.f x1 x5).bind fun t685 => (if t684 > t685 then (some 1) else (steelyardref01_Cmp.l0 k x0 x1 (wrap64 (x5 - 1))))))))) else (some 0)
def steelyardref01_Cmp.f (k : Nat) (l0 : List Int) (l1 : List Int) : Option (Int) := steelyardref01_Cmp.l0 k l0 l1 (wrap64 ((mx (l0.length : Int) (l1.length : Int)) - 1))
theorem steelyardref01_Cmp.mono_l : ∀ k, (∀ y0 y1 y2, LeO (steelyardref01_Cmp.l0 k y0 y1 y2) (steelyardref01_Cmp.l0 (k + 1) y0 y1 y2))
  | 0 => fun _ _ _ r h => by simp [steelyardref01_Cmp.l0] at h
  | k + 1 => by
    have ih0 := steelyardref01_Cmp.mono_l k
    · intro y0 y1 y2
      unfold steelyardref01_Cmp.l0
      repeat' first
       | with_reducible first
        | exact ih0 _ _ _
        | exact LeO.refl _
        | exact LeO.none _
        | refine LeO.ite ?_ ?_
        | refine LeO.bind ?_ (fun _ => ?_)
       | exact LeO.none _ | refine LeO.ite ?_ ?_ | refine LeO.bind ?_ (fun _ => ?_)
theorem steelyardref01_Cmp.mono : ∀ a0 a1 k, LeO (steelyardref01_Cmp.f k a0 a1) (steelyardref01_Cmp.f (k + 1) a0 a1) := by
  intro a0 a1 k
  have ih0 := steelyardref01_Cmp.mono_l k
  unfold steelyardref01_Cmp.f
  repeat' first
   | with_reducible first
    | exact ih0 _ _ _
    | exact LeO.refl _
    | exact LeO.none _
    | refine LeO.ite ?_ ?_
    | refine LeO.bind ?_ (fun _ => ?_)
   | exact LeO.none _ | refine LeO.ite ?_ ?_ | refine LeO.bind ?_ (fun _ => ?_)
def steelyardref01_Bit.f (l0 : List Int) (a1 : Int) : Option (Bool) := if a1 ≥ 0 then ((steelyardref01_at.f l0 (wrap64 (Int.tdiv a1 32))).bind fun t699 => (if 0 ≤ (IntKind.u64.wrap (Int.tmod a1 32)) then (some ((Go.bits .and .u64 (shr .u64 t699 (IntKind.u64.wrap (Int.tmod a1 32))) 1) == 1)) else (none))) else (some false)
def steelyardref01_Bits.l0 : Nat → List Int → Int → Option (Int)
  | 0, _, _ => none
  | k + 1, x0, x3 => if x3 > 0 then ((steelyardref01_Bit.f x0 (wrap64 (x3 - 1))).bind fun t700 => (if t700 = true then (some x3) else (steelyardref01_Bits.l0 k x0 (wrap64 (x3 - 1))))) else (some x3)
def steelyardref01_Bits.f (k : Nat) (l0 : List Int) : Option (Int) := steelyardref01_Bits.l0 k l0 (wrap64 (32 * (l0.length : Int)))
theorem steelyardref01_Bits.mono_l : ∀ k, (∀ y0 y1, LeO (steelyardref01_Bits.l0 k y0 y1) (steelyardref01_Bits.l0 (k + 1) y0 y1))
  | 0 => fun _ _ r h => by simp [steelyardref01_Bits.l0] at h
  | k + 1 => by
    have ih0 := steelyardref01_Bits.mono_l k
    · intro y0 y1
      unfold steelyardref01_Bits.l0
      repeat' first
       | with_reducible first
        | exact ih0 _ _
        | exact LeO.refl _
        | exact LeO.none _
        | refine LeO.ite ?_ ?_
        | refine LeO.bind ?_ (fun _ => ?_)
       | exact LeO.none _ | refine LeO.ite ?_ ?_ | refine LeO.bind ?_ (fun _ => ?_)
theorem steelyardref01_Bits.mono : ∀ a0 k, LeO (steelyardref01_Bits.f k a0) (steelyardref01_Bits.f (k + 1) a0) := by
  intro a0 k
  have ih0 := steelyardref01_Bits.mono_l k
  unfold steelyardref01_Bits.f
  repeat' first
   | with_reducible first
    | exact ih0 _ _
    | exact LeO.refl _
    | exact LeO.none _
    | refine LeO.ite ?_ ?_
    | refine LeO.bind ?_ (fun _ => ?_)
   | exact LeO.none _ | refine LeO.ite ?_ ?_ | refine LeO.bind ?_ (fun _ => ?_)
def steelyardref01_Sub.l0 : Nat → List Int → List Int → List Int → Int → Int → Option (List Int)
  | 0, _, _, _, _, _ => none
  | k + 1, x0, x1, x5, x6, x7 => if x7 < (x0.length : Int) then ((steelyardref01_at.f x0 x7).bind fun t704 => ((steelyardref01_at.f x1 x7).bind fun t705 => (if t704 < (IntKind.u64.wrap (t705 + x6)) then (if x5.length < 35184372088832 then (steelyardref01_Sub.l0 k x0 x1 (x5 ++ [(IntKind.u64.wrap ((IntKind.u64.wrap (t704 + 4294967296)) - (IntKind.u64.wrap (t705 + x6)))) % 4294967296]) 1 (wrap64 (x7 + 1))) else (none)) else (if x5.length < 35184372088832 then (steelyardref01_Sub.l0 k x0 x1 (x5 ++ [(IntKind.u64.wrap (t704 - (IntKind.u64.wrap (t705 + x6)))) % 4294967296]) 0 (wrap64 (x7 + 1))) else (none))))) else ((steelyardref01_Trim.f k x5).bind fun t701 => (some t701))
def steelyardref01_Sub.f (k : Nat) (l0 : List Int) (l1 : List Int) : Option (List Int) := steelyardref01_Sub.l0 k l0 l1 ([] : List Int) 0 0
theorem steelyardref01_Sub.mono_l : ∀ k, (∀ y0 y1 y2 y3 y4, LeO (steelyardref01_Sub.l0 k y0 y1 y2 y3 y4) (steelyardref01_Sub.l0 (k + 1) y0 y1 y2 y3 y4))
  | 0 => fun _ _ _ _ _ r h => by simp [steelyardref01_Sub.l0] at h
  | k + 1 => by
    have ih0 := steelyardref01_Sub.mono_l k
    · intro y0 y1 y2 y3 y4
      unfold steelyardref01_Sub.l0
      repeat' first
       | with_reducible first
        | exact ih0 _ _ _ _ _
        | exact steelyardref01_Trim.mono _ _
        | exact LeO.refl _
        | exact LeO.none _
        | refine LeO.ite ?_ ?_
        | refine LeO.bind ?_ (fun _ => ?_)
       | exact LeO.none _ | refine LeO.ite ?_ ?_ | refine LeO.bind ?_ (fun _ => ?_)
theorem steelyardref01_Sub.mono : ∀ a0 a1 k, LeO (steelyardref01_Sub.f k a0 a1) (steelyardref01_Sub.f (k + 1) a0 a1) := by
  intro a0 a1 k
  have ih0 := steelyardref01_Sub.mono_l k
  unfold steelyardref01_Sub.f
  repeat' first
   | with_reducible first
    | exact ih0 _ _ _ _ _
    | exact steelyardref01_Trim.mono _ _
    | exact LeO.refl _
    | exact LeO.none _
    | refine LeO.ite ?_ ?_
    | refine LeO.bind ?_ (fun _ => ?_)
   | exact LeO.none _ | refine LeO.ite ?_ ?_ | refine LeO.bind ?_ (fun _ => ?_)
mutual
def steelyardref01_Add.l0 : Nat → List Int → List Int → List Int → Int → Int → Option (List Int)
  | 0, _, _, _, _, _ => none
  | k + 1, x0, x1, x5, x6, x7 => if x7 < (x0.length : Int) then (steelyardref01_Add.j1 k x0 x1 x5 x6 x7 true) else (if x7 < (x1.length : Int) then (steelyardref01_Add.j1 k x0 x1 x5 x6 x7 true) else (steelyardref01_Add.j1 k x0 x1 x5 x6 x7 (decide (x6 > 0))))
def steelyardref01_Add.j1 : Nat → List Int → List Int → List Int → Int → Int → Bool → Option (List Int)
  | 0, _, _, _, _, _, _ => none
  | k + 1, x0, x1, x5, x6, x7, x21 => if x21 = true then ((steelyardref01_at.f x0 x7).bind fun t775 => ((steelyardref01_at.f x1 x7).bind fun t776 => (if x5.length < 35184372088832 then (steelyardref01_Add.l0 k x0 x1 (x5 ++ [(IntKind.u64.wrap (x6 + (IntKind.u64.wrap (t775 + t776)))) % 4294967296]) ((IntKind.u64.wrap (x6 + (IntKind.u64.wrap (t775 + t776)))) / 4294967296) (wrap64 (x7 + 1))) else (none)))) else ((steelyardref01_Trim.f k x5).bind fun t780 => (some t780))
end
def steelyardref01_Add.f (k : Nat) (l0 : List Int) (l1 : List Int) : Option (List Int) := steelyardref01_Add.l0 k l0 l1 ([] : List Int) 0 0
theorem steelyardref01_Add.mono_l : ∀ k, (∀ y0 y1 y2 y3 y4, LeO (steelyardref01_Add.l0 k y0 y1 y2 y3 y4) (steelyardref01_Add.l0 (k + 1) y0 y1 y2 y3 y4)) ∧ (∀ y0 y1 y2 y3 y4 y5, LeO (steelyardref01_Add.j1 k y0 y1 y2 y3 y4 y5) (steelyardref01_Add.j1 (k + 1) y0 y1 y2 y3 y4 y5))
  | 0 => ⟨fun _ _ _ _ _ r h => by simp [steelyardref01_Add.l0] at h, fun _ _ _ _ _ _ r h => by simp [steelyardref01_Add.j1] at h⟩
  | k + 1 => by
    obtain ⟨ih0, ih1⟩ := steelyardref01_Add.mono_l k
    refine ⟨?_, ?_⟩
    · intro y0 y1 y2 y3 y4
      unfold steelyardref01_Add.l0
      repeat' first
       | with_reducible first
        | exact ih0 _ _ _ _ _
        | exact ih1 _ _ _ _ _ _
        | exact steelyardref01_Trim.mono _ _
        | exact LeO.refl _
        | exact LeO.none _
        | refine LeO.ite ?_ ?_
        | refine LeO.bind ?_ (fun _ => ?_)
       | exact LeO.none _ | refine LeO.ite ?_ ?_ | refine LeO.bind ?_ (fun _ => ?_)
    · intro y0 y1 y2 y3 y4 y5
      unfold steelyardref01_Add.j1
      repeat' first
       | with_reducible first
        | exact ih0 _ _ _ _ _
        | exact ih1 _ _ _ _ _ _
        | exact steelyardref01_Trim.mono _ _
        | exact LeO.refl _
        | exact LeO.none _
        | refine LeO.ite ?_ ?_
        | refine LeO.bind ?_ (fun _ => ?_)
       | exact LeO.none _ | refine LeO.ite ?_ ?_ | refine LeO.bind ?_ (fun _ => ?_)
theorem steelyardref01_Add.mono : ∀ a0 a1 k, LeO (steelyardref01_Add.f k a0 a1) (steelyardref01_Add.f (k + 1) a0 a1) := by
  intro a0 a1 k
  obtain ⟨ih0, ih1⟩ := steelyardref01_Add.mono_l k
  unfold steelyardref01_Add.f
  repeat' first
   | with_reducible first
    | exact ih0 _ _ _ _ _
    | exact ih1 _ _ _ _ _ _
    | exact steelyardref01_Trim.mono _ _
    | exact LeO.refl _
    | exact LeO.none _
    | refine LeO.ite ?_ ?_
    | refine LeO.bind ?_ (fun _ => ?_)
   | exact LeO.none _ | refine LeO.ite ?_ ?_ | refine LeO.bind ?_ (fun _ => ?_)
end Go.Proofs.YtjgmmaeafodpmaaGreatDoor.P
set_option linter.unusedVariables false
set_option linter.unusedSimpArgs false
namespace Go.Proofs.YtjgmmaeafodpmaaGreatDoor.P
open Go.RowKit Go.Proofs.YtjgmmaeafodpmaaGreatDoorW.PrintWords Go.Proofs.YtjgmmaeafodpmaaGreatDoorW.PrintLast Go.Proofs.YtjgmmaeafodpmaaGreatDoorW.PrintMore
def steelyardref02_Up.l0 : Nat → List Int → Int → List Int → Int → Int → Option (List Int)
  | 0, _, _, _, _, _ => none
  | k + 1, x0, x1, x5, x6, x7 => if x7 < (x0.length : Int) then (if 0 ≤ x7 then (if 0 ≤ (IntKind.u64.wrap (Int.tmod x1 32)) then (if x5.length < 35184372088832 then (steelyardref02_Up.l0 k x0 x1 (x5 ++ [(Go.bits .or .u64 x6 (shl .u64 (IntKind.u64.wrap (rd x0 x7)) (IntKind.u64.wrap (Int.tmod x1 32)))) % 4294967296]) ((Go.bits .or .u64 x6 (shl .u64 (IntKind.u64.wrap (rd x0 x7)) (IntKind.u64.wrap (Int.tmod x1 32)))) / 4294967296) (wrap64 (x7 + 1))) else (none)) else (none)) else (none)) else (if x5.length < 35184372088832 then ((steelyardref01_Trim.f k (x5 ++ [(x6) % 4294967296])).bind fun t696 => (some t696)) else (none))
def steelyardref02_Up.f (k : Nat) (l0 : List Int) (a1 : Int) : Option (List Int) := if 0 ≤ (wrap64 (Int.tdiv a1 32)) then (if (wrap64 (Int.tdiv a1 32)) ≤ (wrap64 ((wrap64 ((wrap64 (Int.tdiv a1 32)) + (l0.length : Int))) + 1)) then (if (wrap64 ((wrap64 ((wrap64 (Int.tdiv a1 32)) + (l0.length : Int))) + 1) : Int).toNat ≤ 70368744177664 then (steelyardref02_Up.l0 k l0 a1 (List.replicate (wrap64 (Int.tdiv a1 32) : Int).toNat 0) 0 0) else (none)) else (none)) else (none)
theorem steelyardref02_Up.mono_l : ∀ k, (∀ y0 y1 y2 y3 y4, LeO (steelyardref02_Up.l0 k y0 y1 y2 y3 y4) (steelyardref02_Up.l0 (k + 1) y0 y1 y2 y3 y4))
  | 0 => fun _ _ _ _ _ r h => by simp [steelyardref02_Up.l0] at h
  | k + 1 => by
    have ih0 := steelyardref02_Up.mono_l k
    · intro y0 y1 y2 y3 y4
      unfold steelyardref02_Up.l0
      repeat' first
       | with_reducible first
        | exact ih0 _ _ _ _ _
        | exact steelyardref01_Trim.mono _ _
        | exact LeO.refl _
        | exact LeO.none _
        | refine LeO.ite ?_ ?_
        | refine LeO.bind ?_ (fun _ => ?_)
       | exact LeO.none _ | refine LeO.ite ?_ ?_ | refine LeO.bind ?_ (fun _ => ?_)
theorem steelyardref02_Up.mono : ∀ a0 a1 k, LeO (steelyardref02_Up.f k a0 a1) (steelyardref02_Up.f (k + 1) a0 a1) := by
  intro a0 a1 k
  have ih0 := steelyardref02_Up.mono_l k
  unfold steelyardref02_Up.f
  repeat' first
   | with_reducible first
    | exact ih0 _ _ _ _ _
    | exact steelyardref01_Trim.mono _ _
    | exact LeO.refl _
    | exact LeO.none _
    | refine LeO.ite ?_ ?_
    | refine LeO.bind ?_ (fun _ => ?_)
   | exact LeO.none _ | refine LeO.ite ?_ ?_ | refine LeO.bind ?_ (fun _ => ?_)
def steelyardref02_Down.l0 : Nat → List Int → Int → List Int → Int → Option (List Int)
  | 0, _, _, _, _ => none
  | k + 1, x0, x1, x5, x6 => if x6 < (x0.length : Int) then (if 0 ≤ x6 then (if (wrap64 (x6 + 1)) < (x0.length : Int) then (if 0 ≤ (wrap64 (x6 + 1)) then (if 0 ≤ (IntKind.u64.wrap (Int.tmod x1 32)) then (if x5.length < 35184372088832 then (steelyardref02_Down.l0 k x0 x1 (x5 ++ [(shr .u64 (Go.bits .or .u64 (IntKind.u64.wrap (rd x0 x6)) (IntKind.u64.wrap ((IntKind.u64.wrap (rd x0 (wrap64 (x6 + 1)))) * 4294967296))) (IntKind.u64.wrap (Int.tmod x1 32))) % 4294967296]) (wrap64 (x6 + 1))) else (none)) else (none)) else (none)) else (if 0 ≤ (IntKind.u64.wrap (Int.tmod x1 32)) then (if x5.length < 35184372088832 then (steelyardref02_Down.l0 k x0 x1 (x5 ++ [(shr .u64 (IntKind.u64.wrap (rd x0 x6)) (IntKind.u64.wrap (Int.tmod x1 32))) % 4294967296]) (wrap64 (x6 + 1))) else (none)) else (none))) else (none)) else ((steelyardref01_Trim.f k x5).bind fun t720 => (some t720))
def steelyardref02_Down.f (k : Nat) (l0 : List Int) (a1 : Int) : Option (List Int) := steelyardref02_Down.l0 k l0 a1 ([] : List Int) (wrap64 (Int.tdiv a1 32))
theorem steelyardref02_Down.mono_l : ∀ k, (∀ y0 y1 y2 y3, LeO (steelyardref02_Down.l0 k y0 y1 y2 y3) (steelyardref02_Down.l0 (k + 1) y0 y1 y2 y3))
  | 0 => fun _ _ _ _ r h => by simp [steelyardref02_Down.l0] at h
  | k + 1 => by
    have ih0 := steelyardref02_Down.mono_l k
    · intro y0 y1 y2 y3
      unfold steelyardref02_Down.l0
      repeat' first
       | with_reducible first
        | exact ih0 _ _ _ _
        | exact steelyardref01_Trim.mono _ _
        | exact LeO.refl _
        | exact LeO.none _
        | refine LeO.ite ?_ ?_
        | refine LeO.bind ?_ (fun _ => ?_)
       | exact LeO.none _ | refine LeO.ite ?_ ?_ | refine LeO.bind ?_ (fun _ => ?_)
theorem steelyardref02_Down.mono : ∀ a0 a1 k, LeO (steelyardref02_Down.f k a0 a1) (steelyardref02_Down.f (k + 1) a0 a1) := by
  intro a0 a1 k
  have ih0 := steelyardref02_Down.mono_l k
  unfold steelyardref02_Down.f
  repeat' first
   | with_reducible first
    | exact ih0 _ _ _ _
    | exact steelyardref01_Trim.mono _ _
    | exact LeO.refl _
    | exact LeO.none _
    | refine LeO.ite ?_ ?_
    | refine LeO.bind ?_ (fun _ => ?_)
   | exact LeO.none _ | refine LeO.ite ?_ ?_ | refine LeO.bind ?_ (fun _ => ?_)
def steelyardref02_Small.l0 : Nat → List Int → Int → List Int → Int → Int → Option (List Int)
  | 0, _, _, _, _, _ => none
  | k + 1, x0, x1, x5, x6, x7 => if x7 < (x0.length : Int) then (if 0 ≤ x7 then (if x5.length < 35184372088832 then (steelyardref02_Small.l0 k x0 x1 (x5 ++ [(IntKind.u64.wrap (x6 + (IntKind.u64.wrap ((IntKind.u64.wrap (rd x0 x7)) * (IntKind.u64.wrap (x1)))))) % 4294967296]) ((IntKind.u64.wrap (x6 + (IntKind.u64.wrap ((IntKind.u64.wrap (rd x0 x7)) * (IntKind.u64.wrap (x1)))))) / 4294967296) (wrap64 (x7 + 1))) else (none)) else (none)) else (if x5.length < 35184372088832 then ((steelyardref01_Trim.f k (x5 ++ [(x6) % 4294967296])).bind fun t790 => (some t790)) else (none))
def steelyardref02_Small.f (k : Nat) (l0 : List Int) (a1 : Int) : Option (List Int) := steelyardref02_Small.l0 k l0 a1 ([] : List Int) 0 0
theorem steelyardref02_Small.mono_l : ∀ k, (∀ y0 y1 y2 y3 y4, LeO (steelyardref02_Small.l0 k y0 y1 y2 y3 y4) (steelyardref02_Small.l0 (k + 1) y0 y1 y2 y3 y4))
  | 0 => fun _ _ _ _ _ r h => by simp [steelyardref02_Small.l0] at h
  | k + 1 => by
    have ih0 := steelyardref02_Small.mono_l k
    · intro y0 y1 y2 y3 y4
      unfold steelyardref02_Small.l0
      repeat' first
       | with_reducible first
        | exact ih0 _ _ _ _ _
        | exact steelyardref01_Trim.mono _ _
        | exact LeO.refl _
        | exact LeO.none _
        | refine LeO.ite ?_ ?_
        | refine LeO.bind ?_ (fun _ => ?_)
       | exact LeO.none _ | refine LeO.ite ?_ ?_ | refine LeO.bind ?_ (fun _ => ?_)
theorem steelyardref02_Small.mono : ∀ a0 a1 k, LeO (steelyardref02_Small.f k a0 a1) (steelyardref02_Small.f (k + 1) a0 a1) := by
  intro a0 a1 k
  have ih0 := steelyardref02_Small.mono_l k
  unfold steelyardref02_Small.f
  repeat' first
   | with_reducible first
    | exact ih0 _ _ _ _ _
    | exact steelyardref01_Trim.mono _ _
    | exact LeO.refl _
    | exact LeO.none _
    | refine LeO.ite ?_ ?_
    | refine LeO.bind ?_ (fun _ => ?_)
   | exact LeO.none _ | refine LeO.ite ?_ ?_ | refine LeO.bind ?_ (fun _ => ?_)
def steelyardref02_Of.l0 : Nat → List Int → List Int → List Int → Int → Option (List Int)
  | 0, _, _, _, _ => none
  | k + 1, x0, x1, x5, x6 => if x6 < (x1.length : Int) then (if 0 ≤ x6 then ((steelyardref02_Small.f k x0 (rd x1 x6)).bind fun t794 => ((steelyardref02_Up.f k t794 (wrap64 (32 * x6))).bind fun t797 => ((steelyardref01_Add.f k x5 t797).bind fun t800 => (steelyardref02_Of.l0 k x0 x1 t800 (wrap64 (x6 + 1)))))) else (none)) else ((steelyardref01_Trim.f k x5).bind fun t803 => (some t803))
def steelyardref02_Of.f (k : Nat) (l0 : List Int) (l1 : List Int) : Option (List Int) := steelyardref02_Of.l0 k l0 l1 ([] : List Int) 0
theorem steelyardref02_Of.mono_l : ∀ k, (∀ y0 y1 y2 y3, LeO (steelyardref02_Of.l0 k y0 y1 y2 y3) (steelyardref02_Of.l0 (k + 1) y0 y1 y2 y3))
  | 0 => fun _ _ _ _ r h => by simp [steelyardref02_Of.l0] at h
  | k + 1 => by
    have ih0 := steelyardref02_Of.mono_l k
    · intro y0 y1 y2 y3
      unfold steelyardref02_Of.l0
      repeat' first
       | with_reducible first
        | exact ih0 _ _ _ _
        | exact steelyardref01_Add.mono _ _ _
        | exact steelyardref01_Trim.mono _ _
        | exact steelyardref02_Small.mono _ _ _
        | exact steelyardref02_Up.mono _ _ _
        | exact LeO.refl _
        | exact LeO.none _
        | refine LeO.ite ?_ ?_
        | refine LeO.bind ?_ (fun _ => ?_)
       | exact LeO.none _ | refine LeO.ite ?_ ?_ | refine LeO.bind ?_ (fun _ => ?_)
theorem steelyardref02_Of.mono : ∀ a0 a1 k, LeO (steelyardref02_Of.f k a0 a1) (steelyardref02_Of.f (k + 1) a0 a1) := by
  intro a0 a1 k
  have ih0 := steelyardref02_Of.mono_l k
  unfold steelyardref02_Of.f
  repeat' first
   | with_reducible first
    | exact ih0 _ _ _ _
    | exact steelyardref01_Add.mono _ _ _
    | exact steelyardref01_Trim.mono _ _
    | exact steelyardref02_Small.mono _ _ _
    | exact steelyardref02_Up.mono _ _ _
    | exact LeO.refl _
    | exact LeO.none _
    | refine LeO.ite ?_ ?_
    | refine LeO.bind ?_ (fun _ => ?_)
   | exact LeO.none _ | refine LeO.ite ?_ ?_ | refine LeO.bind ?_ (fun _ => ?_)
end Go.Proofs.YtjgmmaeafodpmaaGreatDoor.P
set_option linter.unusedVariables false
set_option linter.unusedSimpArgs false
namespace Go.Proofs.YtjgmmaeafodpmaaGreatDoor.P
open Go.RowKit Go.Proofs.YtjgmmaeafodpmaaGreatDoorW.PrintWords Go.Proofs.YtjgmmaeafodpmaaGreatDoorW.PrintLast Go.Proofs.YtjgmmaeafodpmaaGreatDoorW.PrintMore
def steelyardref06_Make.f (k : Nat) (a0 : Bool) (l1 : List Int) : Option (Bool × List Int) := (steelyardref01_Trim.f k l1).bind fun t648 => (if a0 = true then (some (decide ((t648.length : Int) > 0), t648)) else (some (false, t648)))
theorem steelyardref06_Make.mono : ∀ a0 a1 k, LeO (steelyardref06_Make.f k a0 a1) (steelyardref06_Make.f (k + 1) a0 a1) := by
  intro a0 a1 k
  unfold steelyardref06_Make.f
  repeat' first
   | with_reducible first
    | exact steelyardref01_Trim.mono _ _
    | exact LeO.refl _
    | exact LeO.none _
    | refine LeO.ite ?_ ?_
    | refine LeO.bind ?_ (fun _ => ?_)
   | exact LeO.none _ | refine LeO.ite ?_ ?_ | refine LeO.bind ?_ (fun _ => ?_)
def steelyardref06_Of.f (k : Nat) (a0 : Int) : Option (Bool × List Int) := if a0 < 0 then ((steelyardref01_Of.f k (IntKind.u64.wrap ((IntKind.u64.wrap (wrap64 (-(wrap64 (a0 + 1))))) + 1))).bind fun t658 => ((steelyardref06_Make.f k true t658).bind fun bt661 => (some (bt661.1, bt661.2)))) else ((steelyardref01_Of.f k (IntKind.u64.wrap (a0))).bind fun t665 => ((steelyardref06_Make.f k false t665).bind fun bt668 => (some (bt668.1, bt668.2))))
theorem steelyardref06_Of.mono : ∀ a0 k, LeO (steelyardref06_Of.f k a0) (steelyardref06_Of.f (k + 1) a0) := by
  intro a0 k
  unfold steelyardref06_Of.f
  repeat' first
   | with_reducible first
    | exact steelyardref01_Of.mono _ _
    | exact steelyardref06_Make.mono _ _ _
    | exact LeO.refl _
    | exact LeO.none _
    | refine LeO.ite ?_ ?_
    | refine LeO.bind ?_ (fun _ => ?_)
   | exact LeO.none _ | refine LeO.ite ?_ ?_ | refine LeO.bind ?_ (fun _ => ?_)
def steelyardref06_Trim.f (k : Nat) (a0_0 : Bool) (l0_1 : List Int) : Option (Bool × List Int) := (steelyardref06_Make.f k a0_0 l0_1).bind fun bt808 => (some (bt808.1, bt808.2))
theorem steelyardref06_Trim.mono : ∀ a0 a1 k, LeO (steelyardref06_Trim.f k a0 a1) (steelyardref06_Trim.f (k + 1) a0 a1) := by
  intro a0 a1 k
  unfold steelyardref06_Trim.f
  repeat' first
   | with_reducible first
    | exact steelyardref06_Make.mono _ _ _
    | exact LeO.refl _
    | exact LeO.none _
    | refine LeO.ite ?_ ?_
    | refine LeO.bind ?_ (fun _ => ?_)
   | exact LeO.none _ | refine LeO.ite ?_ ?_ | refine LeO.bind ?_ (fun _ => ?_)
def steelyardref06_Mul.f (k : Nat) (a0_0 : Bool) (l0_1 : List Int) (a1_0 : Bool) (l1_1 : List Int) : Option (Bool × List Int) := (steelyardref06_Trim.f k a0_0 l0_1).bind fun bt843 => ((steelyardref06_Trim.f k a1_0 l1_1).bind fun bt847 => ((steelyardref02_Of.f k l0_1 l1_1).bind fun t851 => ((steelyardref06_Make.f k (bt843.1 != bt847.1) t851).bind fun bt854 => (some (bt854.1, bt854.2)))))
theorem steelyardref06_Mul.mono : ∀ a0 a1 a2 a3 k, LeO (steelyardref06_Mul.f k a0 a1 a2 a3) (steelyardref06_Mul.f (k + 1) a0 a1 a2 a3) := by
  intro a0 a1 a2 a3 k
  unfold steelyardref06_Mul.f
  repeat' first
   | with_reducible first
    | exact steelyardref02_Of.mono _ _ _
    | exact steelyardref06_Make.mono _ _ _
    | exact steelyardref06_Trim.mono _ _ _
    | exact LeO.refl _
    | exact LeO.none _
    | refine LeO.ite ?_ ?_
    | refine LeO.bind ?_ (fun _ => ?_)
   | exact LeO.none _ | refine LeO.ite ?_ ?_ | refine LeO.bind ?_ (fun _ => ?_)
mutual
def steelyardref06_Cmp.j0 : Nat → Bool → Bool → List Int → Bool → List Int → Option (Int)
  | 0, _, _, _, _, _ => none
  | k + 1, x11, x1062000, x1062001, x1063000, x1063001 => if x11 = true then (some (-1)) else (if x1062000 = true then (steelyardref06_Cmp.j1 k false x1062000 x1062001 x1063000 x1063001) else (steelyardref06_Cmp.j1 k x1063000 x1062000 x1062001 x1063000 x1063001))
def steelyardref06_Cmp.j1 : Nat → Bool → Bool → List Int → Bool → List Int → Option (Int)
  | 0, _, _, _, _, _ => none
  | k + 1, x19, x1062000, x1062001, x1063000, x1063001 => if x19 = true then (some 1) else (if x1062000 = true then ((steelyardref01_Cmp.f k x1063001 x1062001).bind fun t1063 => (some t1063)) else ((steelyardref01_Cmp.f k x1062001 x1063001).bind fun t1064 => (some t1064)))
end
def steelyardref06_Cmp.f (k : Nat) (a0_0 : Bool) (l0_1 : List Int) (a1_0 : Bool) (l1_1 : List Int) : Option (Int) := (steelyardref06_Trim.f k a0_0 l0_1).bind fun bt1053 => ((steelyardref06_Trim.f k a1_0 l1_1).bind fun bt1057 => (if bt1053.1 = true then (steelyardref06_Cmp.j0 k (!bt1057.1) bt1053.1 bt1053.2 bt1057.1 bt1057.2) else (steelyardref06_Cmp.j0 k false bt1053.1 bt1053.2 bt1057.1 bt1057.2)))
theorem steelyardref06_Cmp.mono_l : ∀ k, (∀ y0 y1 y2 y3 y4, LeO (steelyardref06_Cmp.j0 k y0 y1 y2 y3 y4) (steelyardref06_Cmp.j0 (k + 1) y0 y1 y2 y3 y4)) ∧ (∀ y0 y1 y2 y3 y4, LeO (steelyardref06_Cmp.j1 k y0 y1 y2 y3 y4) (steelyardref06_Cmp.j1 (k + 1) y0 y1 y2 y3 y4))
  | 0 => ⟨fun _ _ _ _ _ r h => by simp [steelyardref06_Cmp.j0] at h, fun _ _ _ _ _ r h => by simp [steelyardref06_Cmp.j1] at h⟩
  | k + 1 => by
    obtain ⟨ih0, ih1⟩ := steelyardref06_Cmp.mono_l k
    refine ⟨?_, ?_⟩
    · intro y0 y1 y2 y3 y4
      unfold steelyardref06_Cmp.j0
      repeat' first
       | with_reducible first
        | exact ih0 _ _ _ _ _
        | exact ih1 _ _ _ _ _
        | exact steelyardref01_Cmp.mono _ _ _
        | exact steelyardref06_Trim.mono _ _ _
        | exact LeO.refl _
        | exact LeO.none _
        | refine LeO.ite ?_ ?_
        | refine LeO.bind ?_ (fun _ => ?_)
       | exact LeO.none _ | refine LeO.ite ?_ ?_ | refine LeO.bind ?_ (fun _ => ?_)
    · intro y0 y1 y2 y3 y4
      unfold steelyardref06_Cmp.j1
      repeat' first
       | with_reducible first
        | exact ih0 _ _ _ _ _
        | exact ih1 _ _ _ _ _
        | exact steelyardref01_Cmp.mono _ _ _
        | exact steelyardref06_Trim.mono _ _ _
        | exact LeO.refl _
        | exact LeO.none _
        | refine LeO.ite ?_ ?_
        | refine LeO.bind ?_ (fun _ => ?_)
       | exact LeO.none _ | refine LeO.ite ?_ ?_ | refine LeO.bind ?_ (fun _ => ?_)
theorem steelyardref06_Cmp.mono : ∀ a0 a1 a2 a3 k, LeO (steelyardref06_Cmp.f k a0 a1 a2 a3) (steelyardref06_Cmp.f (k + 1) a0 a1 a2 a3) := by
  intro a0 a1 a2 a3 k
  obtain ⟨ih0, ih1⟩ := steelyardref06_Cmp.mono_l k
  unfold steelyardref06_Cmp.f
  repeat' first
   | with_reducible first
    | exact ih0 _ _ _ _ _
    | exact ih1 _ _ _ _ _
    | exact steelyardref01_Cmp.mono _ _ _
    | exact steelyardref06_Trim.mono _ _ _
    | exact LeO.refl _
    | exact LeO.none _
    | refine LeO.ite ?_ ?_
    | refine LeO.bind ?_ (fun _ => ?_)
   | exact LeO.none _ | refine LeO.ite ?_ ?_ | refine LeO.bind ?_ (fun _ => ?_)
def steelyardref06_Add.f (k : Nat) (a0_0 : Bool) (l0_1 : List Int) (a1_0 : Bool) (l1_1 : List Int) : Option (Bool × List Int) := (steelyardref06_Trim.f k a0_0 l0_1).bind fun bt1206 => ((steelyardref06_Trim.f k a1_0 l1_1).bind fun bt1210 => (if (bt1206.1 == bt1210.1) = true then ((steelyardref01_Add.f k bt1206.2 bt1210.2).bind fun t1216 => ((steelyardref06_Make.f k bt1206.1 t1216).bind fun bt1219 => (some (bt1219.1, bt1219.2)))) else ((steelyardref01_Cmp.f k bt1206.2 bt1210.2).bind fun t1223 => (if t1223 ≥ 0 then ((steelyardref01_Sub.f k bt1206.2 bt1210.2).bind fun t1224 => ((steelyardref06_Make.f k bt1206.1 t1224).bind fun bt1227 => (some (bt1227.1, bt1227.2)))) else ((steelyardref01_Sub.f k bt1210.2 bt1206.2).bind fun t1231 => ((steelyardref06_Make.f k bt1210.1 t1231).bind fun bt1234 => (some (bt1234.1, bt1234.2))))))))
theorem steelyardref06_Add.mono : ∀ a0 a1 a2 a3 k, LeO (steelyardref06_Add.f k a0 a1 a2 a3) (steelyardref06_Add.f (k + 1) a0 a1 a2 a3) := by
  intro a0 a1 a2 a3 k
  unfold steelyardref06_Add.f
  repeat' first
   | with_reducible first
    | exact steelyardref01_Add.mono _ _ _
    | exact steelyardref01_Cmp.mono _ _ _
    | exact steelyardref01_Sub.mono _ _ _
    | exact steelyardref06_Make.mono _ _ _
    | exact steelyardref06_Trim.mono _ _ _
    | exact LeO.refl _
    | exact LeO.none _
    | refine LeO.ite ?_ ?_
    | refine LeO.bind ?_ (fun _ => ?_)
   | exact LeO.none _ | refine LeO.ite ?_ ?_ | refine LeO.bind ?_ (fun _ => ?_)
end Go.Proofs.YtjgmmaeafodpmaaGreatDoor.P
set_option linter.unusedVariables false
set_option linter.unusedSimpArgs false
namespace Go.Proofs.YtjgmmaeafodpmaaGreatDoor.P
open Go.RowKit Go.Proofs.YtjgmmaeafodpmaaGreatDoorW.PrintWords Go.Proofs.YtjgmmaeafodpmaaGreatDoorW.PrintLast Go.Proofs.YtjgmmaeafodpmaaGreatDoorW.PrintMore
def steelyardref03_Rem.l0 : Nat → List Int → List Int → List Int → Int → Option (List Int × List Int × Bool)
  | 0, _, _, _, _ => none
  | k + 1, x5, x7, x8, x9 => if x9 ≥ 0 then ((steelyardref01_Cmp.f k x5 x8).bind fun t739 => (if t739 ≥ 0 then ((steelyardref01_Sub.f k x5 x8).bind fun t740 => (if 0 ≤ (wrap64 (Int.tdiv x9 32)) then (if (wrap64 (Int.tdiv x9 32)) < (x7.length : Int) then (if 0 ≤ (IntKind.u64.wrap (Int.tmod x9 32)) then ((steelyardref02_Down.f k x8 1).bind fun t745 => (steelyardref03_Rem.l0 k t740 (x7.set ((wrap64 (Int.tdiv x9 32)) : Int).toNat (Go.bits .or .u32 (rd x7 (wrap64 (Int.tdiv x9 32))) (shl .u32 1 (IntKind.u64.wrap (Int.tmod x9 32))))) t745 (wrap64 (x9 - 1)))) else (none)) else (none)) else (none))) else ((steelyardref02_Down.f k x8 1).bind fun t748 => (steelyardref03_Rem.l0 k x5 x7 t748 (wrap64 (x9 - 1)))))) else ((steelyardref01_Trim.f k x7).bind fun t736 => (some (t736, x5, true)))
def steelyardref03_Rem.f (k : Nat) (l0 : List Int) (l1 : List Int) : Option (List Int × List Int × Bool) := (steelyardref01_Bits.f k l1).bind fun t724 => (if t724 = 0 then (some (([] : List Int), ([] : List Int), false)) else ((steelyardref01_Trim.f k l0).bind fun t725 => ((steelyardref01_Bits.f k l0).bind fun t728 => ((steelyardref01_Bits.f k l1).bind fun t729 => (if 0 ≤ (wrap64 ((wrap64 (Int.tdiv (mx 0 (wrap64 (t728 - t729))) 32)) + 1)) then (if (wrap64 ((wrap64 (Int.tdiv (mx 0 (wrap64 (t728 - t729))) 32)) + 1) : Int).toNat ≤ 70368744177664 then ((steelyardref02_Up.f k l1 (mx 0 (wrap64 (t728 - t729)))).bind fun t733 => (steelyardref03_Rem.l0 k t725 (List.replicate (wrap64 ((wrap64 (Int.tdiv (mx 0 (wrap64 (t728 - t729))) 32)) + 1) : Int).toNat 0) t733 (mx 0 (wrap64 (t728 - t729))))) else (none)) else (none))))))
theorem steelyardref03_Rem.mono_l : ∀ k, (∀ y0 y1 y2 y3, LeO (steelyardref03_Rem.l0 k y0 y1 y2 y3) (steelyardref03_Rem.l0 (k + 1) y0 y1 y2 y3))
  | 0 => fun _ _ _ _ r h => by simp [steelyardref03_Rem.l0] at h
  | k + 1 => by
    have ih0 := steelyardref03_Rem.mono_l k
    · intro y0 y1 y2 y3
      unfold steelyardref03_Rem.l0
      repeat' first
       | with_reducible first
        | exact ih0 _ _ _ _
        | exact steelyardref01_Bits.mono _ _
        | exact steelyardref01_Cmp.mono _ _ _
        | exact steelyardref01_Sub.mono _ _ _
        | exact steelyardref01_Trim.mono _ _
        | exact steelyardref02_Down.mono _ _ _
        | exact steelyardref02_Up.mono _ _ _
        | exact LeO.refl _
        | exact LeO.none _
        | refine LeO.ite ?_ ?_
        | refine LeO.bind ?_ (fun _ => ?_)
       | exact LeO.none _ | refine LeO.ite ?_ ?_ | refine LeO.bind ?_ (fun _ => ?_)
theorem steelyardref03_Rem.mono : ∀ a0 a1 k, LeO (steelyardref03_Rem.f k a0 a1) (steelyardref03_Rem.f (k + 1) a0 a1) := by
  intro a0 a1 k
  have ih0 := steelyardref03_Rem.mono_l k
  unfold steelyardref03_Rem.f
  repeat' first
   | with_reducible first
    | exact ih0 _ _ _ _
    | exact steelyardref01_Bits.mono _ _
    | exact steelyardref01_Cmp.mono _ _ _
    | exact steelyardref01_Sub.mono _ _ _
    | exact steelyardref01_Trim.mono _ _
    | exact steelyardref02_Down.mono _ _ _
    | exact steelyardref02_Up.mono _ _ _
    | exact LeO.refl _
    | exact LeO.none _
    | refine LeO.ite ?_ ?_
    | refine LeO.bind ?_ (fun _ => ?_)
   | exact LeO.none _ | refine LeO.ite ?_ ?_ | refine LeO.bind ?_ (fun _ => ?_)
def steelyardref03_Gcd.l0 : Nat → List Int → List Int → Option (List Int)
  | 0, _, _ => none
  | k + 1, x5, x6 => if (x6.length : Int) > 0 then ((steelyardref03_Rem.f k x5 x6).bind fun bt757 => (steelyardref03_Gcd.l0 k x6 bt757.2.1)) else (some x5)
def steelyardref03_Gcd.f (k : Nat) (l0 : List Int) (l1 : List Int) : Option (List Int) := (steelyardref01_Trim.f k l0).bind fun t751 => ((steelyardref01_Trim.f k l1).bind fun t754 => (steelyardref03_Gcd.l0 k t751 t754))
theorem steelyardref03_Gcd.mono_l : ∀ k, (∀ y0 y1, LeO (steelyardref03_Gcd.l0 k y0 y1) (steelyardref03_Gcd.l0 (k + 1) y0 y1))
  | 0 => fun _ _ r h => by simp [steelyardref03_Gcd.l0] at h
  | k + 1 => by
    have ih0 := steelyardref03_Gcd.mono_l k
    · intro y0 y1
      unfold steelyardref03_Gcd.l0
      repeat' first
       | with_reducible first
        | exact ih0 _ _
        | exact steelyardref01_Trim.mono _ _
        | exact steelyardref03_Rem.mono _ _ _
        | exact LeO.refl _
        | exact LeO.none _
        | refine LeO.ite ?_ ?_
        | refine LeO.bind ?_ (fun _ => ?_)
       | exact LeO.none _ | refine LeO.ite ?_ ?_ | refine LeO.bind ?_ (fun _ => ?_)
theorem steelyardref03_Gcd.mono : ∀ a0 a1 k, LeO (steelyardref03_Gcd.f k a0 a1) (steelyardref03_Gcd.f (k + 1) a0 a1) := by
  intro a0 a1 k
  have ih0 := steelyardref03_Gcd.mono_l k
  unfold steelyardref03_Gcd.f
  repeat' first
   | with_reducible first
    | exact ih0 _ _
    | exact steelyardref01_Trim.mono _ _
    | exact steelyardref03_Rem.mono _ _ _
    | exact LeO.refl _
    | exact LeO.none _
    | refine LeO.ite ?_ ?_
    | refine LeO.bind ?_ (fun _ => ?_)
   | exact LeO.none _ | refine LeO.ite ?_ ?_ | refine LeO.bind ?_ (fun _ => ?_)
end Go.Proofs.YtjgmmaeafodpmaaGreatDoor.P
set_option linter.unusedVariables false
set_option linter.unusedSimpArgs false
namespace Go.Proofs.YtjgmmaeafodpmaaGreatDoor.P
open Go.RowKit Go.Proofs.YtjgmmaeafodpmaaGreatDoorW.PrintWords Go.Proofs.YtjgmmaeafodpmaaGreatDoorW.PrintLast Go.Proofs.YtjgmmaeafodpmaaGreatDoorW.PrintMore
def steelyardref07_Whole.f (k : Nat) (a0 : Int) : Option (Bool × List Int × List Int) := (steelyardref06_Of.f k a0).bind fun bt673 => (some (bt673.1, bt673.2, (([1] : List Int))))
theorem steelyardref07_Whole.mono : ∀ a0 k, LeO (steelyardref07_Whole.f k a0) (steelyardref07_Whole.f (k + 1) a0) := by
  intro a0 k
  unfold steelyardref07_Whole.f
  repeat' first
   | with_reducible first
    | exact steelyardref06_Of.mono _ _
    | exact LeO.refl _
    | exact LeO.none _
    | refine LeO.ite ?_ ?_
    | refine LeO.bind ?_ (fun _ => ?_)
   | exact LeO.none _ | refine LeO.ite ?_ ?_ | refine LeO.bind ?_ (fun _ => ?_)
def steelyardref07_trimmed.f (l0 : List Int) : Option (Bool) := if (l0.length : Int) = 0 then (some true) else (if 0 ≤ (wrap64 ((l0.length : Int) - 1)) then (if (wrap64 ((l0.length : Int) - 1)) < (l0.length : Int) then (some ((rd l0 (wrap64 ((l0.length : Int) - 1))) != 0)) else (none)) else (none))
def steelyardref07_Good.f (k : Nat) (a0_0 : Bool) (l0_1 : List Int) (l0_2 : List Int) : Option (Bool) := (steelyardref07_trimmed.f l0_1).bind fun t765 => (if t765 = true then ((steelyardref07_trimmed.f l0_2).bind fun t766 => (if t766 = true then (if (l0_2.length : Int) = 0 then (some false) else (if a0_0 = true then (if (l0_1.length : Int) = 0 then (some false) else (if (l0_1.length : Int) > 64 then (some false) else (if (l0_2.length : Int) > 64 then (some false) else ((steelyardref03_Gcd.f k l0_1 l0_2).bind fun t767 => (if (t767.length : Int) = 1 then (if 0 < (t767.length : Int) then (some ((rd t767 0) == 1)) else (none)) else (some false)))))) else (if (l0_1.length : Int) > 64 then (some false) else (if (l0_2.length : Int) > 64 then (some false) else ((steelyardref03_Gcd.f k l0_1 l0_2).bind fun t771 => (if (t771.length : Int) = 1 then (if 0 < (t771.length : Int) then (some ((rd t771 0) == 1)) else (none)) else (some false))))))) else (some false))) else (some false))
theorem steelyardref07_Good.mono : ∀ a0 a1 a2 k, LeO (steelyardref07_Good.f k a0 a1 a2) (steelyardref07_Good.f (k + 1) a0 a1 a2) := by
  intro a0 a1 a2 k
  unfold steelyardref07_Good.f
  repeat' first
   | with_reducible first
    | exact steelyardref03_Gcd.mono _ _ _
    | exact LeO.refl _
    | exact LeO.none _
    | refine LeO.ite ?_ ?_
    | refine LeO.bind ?_ (fun _ => ?_)
   | exact LeO.none _ | refine LeO.ite ?_ ?_ | refine LeO.bind ?_ (fun _ => ?_)
def steelyardref07_Wide.f (k : Nat) (a0_0 : Bool) (l0_1 : List Int) (l1 : List Int) : Option (Bool × List Int × List Int) := (steelyardref06_Trim.f k a0_0 l0_1).bind fun bt814 => ((steelyardref03_Gcd.f k bt814.2 l1).bind fun t819 => ((steelyardref03_Rem.f k bt814.2 t819).bind fun bt822 => ((steelyardref06_Make.f k bt814.1 bt822.1).bind fun bt829 => ((steelyardref03_Rem.f k l1 t819).bind fun bt833 => (some (bt829.1, bt829.2, bt833.1))))))
theorem steelyardref07_Wide.mono : ∀ a0 a1 a2 k, LeO (steelyardref07_Wide.f k a0 a1 a2) (steelyardref07_Wide.f (k + 1) a0 a1 a2) := by
  intro a0 a1 a2 k
  unfold steelyardref07_Wide.f
  repeat' first
   | with_reducible first
    | exact steelyardref03_Gcd.mono _ _ _
    | exact steelyardref03_Rem.mono _ _ _
    | exact steelyardref06_Make.mono _ _ _
    | exact steelyardref06_Trim.mono _ _ _
    | exact LeO.refl _
    | exact LeO.none _
    | refine LeO.ite ?_ ?_
    | refine LeO.bind ?_ (fun _ => ?_)
   | exact LeO.none _ | refine LeO.ite ?_ ?_ | refine LeO.bind ?_ (fun _ => ?_)
def steelyardref07_Times.f (k : Nat) (a0_0 : Bool) (l0_1 : List Int) (l0_2 : List Int) (a1_0 : Bool) (l1_1 : List Int) (l1_2 : List Int) : Option (Bool × List Int × List Int) := (steelyardref06_Mul.f k a0_0 l0_1 a1_0 l1_1).bind fun bt861 => ((steelyardref02_Of.f k l0_2 l1_2).bind fun t865 => ((steelyardref07_Wide.f k bt861.1 bt861.2 t865).bind fun bt868 => (some (bt868.1, bt868.2.1, bt868.2.2))))
theorem steelyardref07_Times.mono : ∀ a0 a1 a2 a3 a4 a5 k, LeO (steelyardref07_Times.f k a0 a1 a2 a3 a4 a5) (steelyardref07_Times.f (k + 1) a0 a1 a2 a3 a4 a5) := by
  intro a0 a1 a2 a3 a4 a5 k
  unfold steelyardref07_Times.f
  repeat' first
   | with_reducible first
    | exact steelyardref02_Of.mono _ _ _
    | exact steelyardref06_Mul.mono _ _ _ _ _
    | exact steelyardref07_Wide.mono _ _ _ _
    | exact LeO.refl _
    | exact LeO.none _
    | refine LeO.ite ?_ ?_
    | refine LeO.bind ?_ (fun _ => ?_)
   | exact LeO.none _ | refine LeO.ite ?_ ?_ | refine LeO.bind ?_ (fun _ => ?_)
def steelyardref07_Limit.f (a0_0 : Bool) (l0_1 : List Int) (l0_2 : List Int) : Option (Bool × List Int × List Int × Int) := if (l0_1.length : Int) > 64 then (some (false, ([] : List Int), ([] : List Int), 2)) else (if (l0_2.length : Int) > 64 then (some (false, ([] : List Int), ([] : List Int), 2)) else (some (a0_0, l0_1, l0_2, 0)))
def steelyardref07_Div.j0 : Nat → Bool → Bool → List Int → List Int → Bool → List Int → List Int → Option (Bool × List Int × List Int × Int)
  | 0, _, _, _, _, _, _, _ => none
  | k + 1, x12, x878000, x878001, x878002, x879000, x879001, x879002 => if x12 = true then (some (false, ([] : List Int), ([] : List Int), 1)) else (if (x879001.length : Int) = 0 then (some (false, ([] : List Int), ([] : List Int), 3)) else ((steelyardref06_Make.f k x879000 x879002).bind fun bt882 => ((steelyardref07_Times.f k x878000 x878001 x878002 bt882.1 bt882.2 x879001).bind fun bt886 => ((steelyardref07_Limit.f bt886.1 bt886.2.1 bt886.2.2).bind fun bt893 => (some (bt893.1, bt893.2.1, bt893.2.2.1, bt893.2.2.2))))))
def steelyardref07_Div.f (k : Nat) (a0_0 : Bool) (l0_1 : List Int) (l0_2 : List Int) (a1_0 : Bool) (l1_1 : List Int) (l1_2 : List Int) : Option (Bool × List Int × List Int × Int) := (steelyardref07_Good.f k a0_0 l0_1 l0_2).bind fun t880 => (if t880 = true then ((steelyardref07_Good.f k a1_0 l1_1 l1_2).bind fun t881 => (steelyardref07_Div.j0 k (!t881) a0_0 l0_1 l0_2 a1_0 l1_1 l1_2)) else (steelyardref07_Div.j0 k true a0_0 l0_1 l0_2 a1_0 l1_1 l1_2))
theorem steelyardref07_Div.mono_l : ∀ k, (∀ y0 y1 y2 y3 y4 y5 y6, LeO (steelyardref07_Div.j0 k y0 y1 y2 y3 y4 y5 y6) (steelyardref07_Div.j0 (k + 1) y0 y1 y2 y3 y4 y5 y6))
  | 0 => fun _ _ _ _ _ _ _ r h => by simp [steelyardref07_Div.j0] at h
  | k + 1 => by
    have ih0 := steelyardref07_Div.mono_l k
    · intro y0 y1 y2 y3 y4 y5 y6
      unfold steelyardref07_Div.j0
      repeat' first
       | with_reducible first
        | exact ih0 _ _ _ _ _ _ _
        | exact steelyardref06_Make.mono _ _ _
        | exact steelyardref07_Good.mono _ _ _ _
        | exact steelyardref07_Times.mono _ _ _ _ _ _ _
        | exact LeO.refl _
        | exact LeO.none _
        | refine LeO.ite ?_ ?_
        | refine LeO.bind ?_ (fun _ => ?_)
       | exact LeO.none _ | refine LeO.ite ?_ ?_ | refine LeO.bind ?_ (fun _ => ?_)
theorem steelyardref07_Div.mono : ∀ a0 a1 a2 a3 a4 a5 k, LeO (steelyardref07_Div.f k a0 a1 a2 a3 a4 a5) (steelyardref07_Div.f (k + 1) a0 a1 a2 a3 a4 a5) := by
  intro a0 a1 a2 a3 a4 a5 k
  have ih0 := steelyardref07_Div.mono_l k
  unfold steelyardref07_Div.f
  repeat' first
   | with_reducible first
    | exact ih0 _ _ _ _ _ _ _
    | exact steelyardref06_Make.mono _ _ _
    | exact steelyardref07_Good.mono _ _ _ _
    | exact steelyardref07_Times.mono _ _ _ _ _ _ _
    | exact LeO.refl _
    | exact LeO.none _
    | refine LeO.ite ?_ ?_
    | refine LeO.bind ?_ (fun _ => ?_)
   | exact LeO.none _ | refine LeO.ite ?_ ?_ | refine LeO.bind ?_ (fun _ => ?_)
def steelyardref07_pos.f (k : Nat) (l0 : List Int) : Option (Bool × List Int) := (steelyardref06_Make.f k false l0).bind fun bt1047 => (some (bt1047.1, bt1047.2))
theorem steelyardref07_pos.mono : ∀ a0 k, LeO (steelyardref07_pos.f k a0) (steelyardref07_pos.f (k + 1) a0) := by
  intro a0 k
  unfold steelyardref07_pos.f
  repeat' first
   | with_reducible first
    | exact steelyardref06_Make.mono _ _ _
    | exact LeO.refl _
    | exact LeO.none _
    | refine LeO.ite ?_ ?_
    | refine LeO.bind ?_ (fun _ => ?_)
   | exact LeO.none _ | refine LeO.ite ?_ ?_ | refine LeO.bind ?_ (fun _ => ?_)
def steelyardref07_Less.f (k : Nat) (a0_0 : Bool) (l0_1 : List Int) (l0_2 : List Int) (a1_0 : Bool) (l1_1 : List Int) (l1_2 : List Int) : Option (Int) := (steelyardref07_pos.f k l1_2).bind fun bt1067 => ((steelyardref06_Mul.f k a0_0 l0_1 bt1067.1 bt1067.2).bind fun bt1071 => ((steelyardref07_pos.f k l0_2).bind fun bt1075 => ((steelyardref06_Mul.f k a1_0 l1_1 bt1075.1 bt1075.2).bind fun bt1079 => ((steelyardref06_Cmp.f k bt1071.1 bt1071.2 bt1079.1 bt1079.2).bind fun t1083 => (some t1083)))))
theorem steelyardref07_Less.mono : ∀ a0 a1 a2 a3 a4 a5 k, LeO (steelyardref07_Less.f k a0 a1 a2 a3 a4 a5) (steelyardref07_Less.f (k + 1) a0 a1 a2 a3 a4 a5) := by
  intro a0 a1 a2 a3 a4 a5 k
  unfold steelyardref07_Less.f
  repeat' first
   | with_reducible first
    | exact steelyardref06_Cmp.mono _ _ _ _ _
    | exact steelyardref06_Mul.mono _ _ _ _ _
    | exact steelyardref07_pos.mono _ _
    | exact LeO.refl _
    | exact LeO.none _
    | refine LeO.ite ?_ ?_
    | refine LeO.bind ?_ (fun _ => ?_)
   | exact LeO.none _ | refine LeO.ite ?_ ?_ | refine LeO.bind ?_ (fun _ => ?_)
def steelyardref07_Cmp.f (k : Nat) (a0_0 : Bool) (l0_1 : List Int) (l0_2 : List Int) (a1_0 : Bool) (l1_1 : List Int) (l1_2 : List Int) : Option (Int) := (steelyardref07_Good.f k a0_0 l0_1 l0_2).bind fun t1086 => (if t1086 = true then ((steelyardref07_Good.f k a1_0 l1_1 l1_2).bind fun t1087 => (if t1087 = true then ((steelyardref07_Less.f k a0_0 l0_1 l0_2 a1_0 l1_1 l1_2).bind fun t1088 => (some t1088)) else (some 0))) else (some 0))
theorem steelyardref07_Cmp.mono : ∀ a0 a1 a2 a3 a4 a5 k, LeO (steelyardref07_Cmp.f k a0 a1 a2 a3 a4 a5) (steelyardref07_Cmp.f (k + 1) a0 a1 a2 a3 a4 a5) := by
  intro a0 a1 a2 a3 a4 a5 k
  unfold steelyardref07_Cmp.f
  repeat' first
   | with_reducible first
    | exact steelyardref07_Good.mono _ _ _ _
    | exact steelyardref07_Less.mono _ _ _ _ _ _ _
    | exact LeO.refl _
    | exact LeO.none _
    | refine LeO.ite ?_ ?_
    | refine LeO.bind ?_ (fun _ => ?_)
   | exact LeO.none _ | refine LeO.ite ?_ ?_ | refine LeO.bind ?_ (fun _ => ?_)
def steelyardref07_Sign.f (k : Nat) (a0_0 : Bool) (l0_1 : List Int) (l0_2 : List Int) : Option (Int) := (steelyardref07_Whole.f k 0).bind fun bt1090 => ((steelyardref07_Cmp.f k a0_0 l0_1 l0_2 bt1090.1 bt1090.2.1 bt1090.2.2).bind fun t1097 => (some t1097))
theorem steelyardref07_Sign.mono : ∀ a0 a1 a2 k, LeO (steelyardref07_Sign.f k a0 a1 a2) (steelyardref07_Sign.f (k + 1) a0 a1 a2) := by
  intro a0 a1 a2 k
  unfold steelyardref07_Sign.f
  repeat' first
   | with_reducible first
    | exact steelyardref07_Cmp.mono _ _ _ _ _ _ _
    | exact steelyardref07_Whole.mono _ _
    | exact LeO.refl _
    | exact LeO.none _
    | refine LeO.ite ?_ ?_
    | refine LeO.bind ?_ (fun _ => ?_)
   | exact LeO.none _ | refine LeO.ite ?_ ?_ | refine LeO.bind ?_ (fun _ => ?_)
def steelyardref07_Of.f (k : Nat) (a0_0 : Bool) (l0_1 : List Int) (l1 : List Int) : Option (Bool × List Int × List Int × Int) := (steelyardref01_Bits.f k l1).bind fun t1130 => (if t1130 = 0 then (some (false, ([] : List Int), ([] : List Int), 3)) else ((steelyardref07_Wide.f k a0_0 l0_1 l1).bind fun bt1131 => ((steelyardref07_Limit.f bt1131.1 bt1131.2.1 bt1131.2.2).bind fun bt1138 => (some (bt1138.1, bt1138.2.1, bt1138.2.2.1, bt1138.2.2.2)))))
theorem steelyardref07_Of.mono : ∀ a0 a1 a2 k, LeO (steelyardref07_Of.f k a0 a1 a2) (steelyardref07_Of.f (k + 1) a0 a1 a2) := by
  intro a0 a1 a2 k
  unfold steelyardref07_Of.f
  repeat' first
   | with_reducible first
    | exact steelyardref01_Bits.mono _ _
    | exact steelyardref07_Wide.mono _ _ _ _
    | exact LeO.refl _
    | exact LeO.none _
    | refine LeO.ite ?_ ?_
    | refine LeO.bind ?_ (fun _ => ?_)
   | exact LeO.none _ | refine LeO.ite ?_ ?_ | refine LeO.bind ?_ (fun _ => ?_)
end Go.Proofs.YtjgmmaeafodpmaaGreatDoor.P
set_option linter.unusedVariables false
set_option linter.unusedSimpArgs false
namespace Go.Proofs.YtjgmmaeafodpmaaGreatDoor.P
open Go.RowKit Go.Proofs.YtjgmmaeafodpmaaGreatDoorW.PrintWords Go.Proofs.YtjgmmaeafodpmaaGreatDoorW.PrintLast Go.Proofs.YtjgmmaeafodpmaaGreatDoorW.PrintMore
def steelyardlaw07_By.f (k : Nat) (a0 : Int) (a1 : Int) : Option (Bool × List Int × List Int) := (steelyardref07_Whole.f k a0).bind fun bt902 => ((steelyardref07_Whole.f k a1).bind fun bt909 => ((steelyardref07_Div.f k bt902.1 bt902.2.1 bt902.2.2 bt909.1 bt909.2.1 bt909.2.2).bind fun bt916 => (some (bt916.1, bt916.2.1, bt916.2.2.1))))
theorem steelyardlaw07_By.mono : ∀ a0 a1 k, LeO (steelyardlaw07_By.f k a0 a1) (steelyardlaw07_By.f (k + 1) a0 a1) := by
  intro a0 a1 k
  unfold steelyardlaw07_By.f
  repeat' first
   | with_reducible first
    | exact steelyardref07_Div.mono _ _ _ _ _ _ _
    | exact steelyardref07_Whole.mono _ _
    | exact LeO.refl _
    | exact LeO.none _
    | refine LeO.ite ?_ ?_
    | refine LeO.bind ?_ (fun _ => ?_)
   | exact LeO.none _ | refine LeO.ite ?_ ?_ | refine LeO.bind ?_ (fun _ => ?_)
end Go.Proofs.YtjgmmaeafodpmaaGreatDoor.P
set_option linter.unusedVariables false
set_option linter.unusedSimpArgs false
namespace Go.Proofs.YtjgmmaeafodpmaaGreatDoor.P
open Go.RowKit Go.Proofs.YtjgmmaeafodpmaaGreatDoorW.PrintWords Go.Proofs.YtjgmmaeafodpmaaGreatDoorW.PrintLast Go.Proofs.YtjgmmaeafodpmaaGreatDoorW.PrintMore
def steelyardlaw25_wakes.f (k : Nat)  : Option (Bool) := (steelyardlaw07_By.f k 2 1).bind fun bt925 => ((enclose_Text.f k bt925.1 bt925.2.1 bt925.2.2 2).bind fun bt932 => ((steelyardlaw07_By.f k 9 4).bind fun bt935 => ((enclose_Text.f k bt935.1 bt935.2.1 bt935.2.2 1).bind fun bt942 => ((steelyardlaw07_By.f k 1 3).bind fun bt945 => ((enclose_Root.f k bt945.1 bt945.2.1 bt945.2.2 0).bind fun bt952 => ((steelyardlaw07_By.f k (-1) 3).bind fun bt969 => ((enclose_Root.f k bt969.1 bt969.2.1 bt969.2.2 0).bind fun bt976 => ((steelyardlaw07_By.f k 1 3).bind fun bt993 => ((enclose_Root.f k bt993.1 bt993.2.1 bt993.2.2 61).bind fun bt1000 => (if bt932.2.2 = 0 then (if bt932.1.toList = ([49, 46, 52, 49] : List UInt8) then (if bt932.2.1.toList = ([49, 46, 52, 50] : List UInt8) then (if bt942.2.2 = 0 then (if bt942.1.toList = ([49, 46, 53] : List UInt8) then (if bt942.2.1.toList = ([49, 46, 53] : List UInt8) then (if bt952.2.2.2.2.2.2 = 0 then ((rat_Sign.f k bt952.1 bt952.2.1 bt952.2.2.1).bind fun t1017 => (if t1017 = 0 then ((steelyardlaw07_By.f k 1 1).bind fun bt1018 => ((steelyardkeep_Rat.f k bt952.2.2.2.1 bt952.2.2.2.2.1 bt952.2.2.2.2.2.1 bt1018.1 bt1018.2.1 bt1018.2.2).bind fun t1025 => (if t1025 = true then (if bt976.2.2.2.2.2.2 = 18 then (some (bt1000.2.2.2.2.2.2 == 1)) else (none)) else (none)))) else (none))) else (none)) else (none)) else (none)) else (none)) else (none)) else (none)) else (none)))))))))))
theorem steelyardlaw25_wakes.mono : ∀ k, LeO (steelyardlaw25_wakes.f k ) (steelyardlaw25_wakes.f (k + 1) ) := by
  intro  k
  unfold steelyardlaw25_wakes.f
  repeat' first
   | with_reducible first
    | exact enclose_Root.mono _ _ _ _ _
    | exact enclose_Text.mono _ _ _ _ _
    | exact rat_Sign.mono _ _ _ _
    | exact steelyardkeep_Rat.mono _ _ _ _ _ _ _
    | exact steelyardlaw07_By.mono _ _ _
    | exact LeO.refl _
    | exact LeO.none _
    | refine LeO.ite ?_ ?_
    | refine LeO.bind ?_ (fun _ => ?_)
   | exact LeO.none _ | refine LeO.ite ?_ ?_ | refine LeO.bind ?_ (fun _ => ?_)
end Go.Proofs.YtjgmmaeafodpmaaGreatDoor.P
set_option linter.unusedVariables false
set_option linter.unusedSimpArgs false
namespace Go.Proofs.YtjgmmaeafodpmaaGreatDoor.P
open Go.RowKit Go.Proofs.YtjgmmaeafodpmaaGreatDoorW.PrintWords Go.Proofs.YtjgmmaeafodpmaaGreatDoorW.PrintLast Go.Proofs.YtjgmmaeafodpmaaGreatDoorW.PrintMore
def steelyardref04_Floor.l0 : Nat → List Int → List Int → Int → Option (List Int)
  | 0, _, _, _ => none
  | k + 1, x0, x4, x5 => if x5 ≥ 0 then (if 0 ≤ (wrap64 (Int.tdiv x5 32)) then (if (wrap64 (Int.tdiv x5 32)) < (x4.length : Int) then (if 0 ≤ (IntKind.u64.wrap (Int.tmod x5 32)) then ((some (x4.set ((wrap64 (Int.tdiv x5 32)) : Int).toNat (Go.bits .or .u32 (rd x4 (wrap64 (Int.tdiv x5 32))) (shl .u32 1 (IntKind.u64.wrap (Int.tmod x5 32)))) : List Int)).bind fun y1114 => ((steelyardref02_Of.f k y1114 y1114).bind fun t1115 => ((steelyardref01_Cmp.f k t1115 x0).bind fun t1118 => (if t1118 > 0 then (steelyardref04_Floor.l0 k x0 (y1114.set ((wrap64 (Int.tdiv x5 32)) : Int).toNat (Go.bits .andNot .u32 (rd y1114 (wrap64 (Int.tdiv x5 32))) (shl .u32 1 (IntKind.u64.wrap (Int.tmod x5 32))))) (wrap64 (x5 - 1))) else (steelyardref04_Floor.l0 k x0 y1114 (wrap64 (x5 - 1))))))) else (none)) else (none)) else (none)) else ((steelyardref01_Trim.f k x4).bind fun t1110 => (some t1110))
def steelyardref04_Floor.f (k : Nat) (l0 : List Int) : Option (List Int) := (steelyardref01_Bits.f k l0).bind fun t1106 => (if 0 ≤ (wrap64 ((wrap64 (Int.tdiv (wrap64 (Int.tdiv (wrap64 (t1106 + 1)) 2)) 32)) + 1)) then (if (wrap64 ((wrap64 (Int.tdiv (wrap64 (Int.tdiv (wrap64 (t1106 + 1)) 2)) 32)) + 1) : Int).toNat ≤ 70368744177664 then (steelyardref04_Floor.l0 k l0 (List.replicate (wrap64 ((wrap64 (Int.tdiv (wrap64 (Int.tdiv (wrap64 (t1106 + 1)) 2)) 32)) + 1) : Int).toNat 0) (wrap64 (Int.tdiv (wrap64 (t1106 + 1)) 2))) else (none)) else (none))
theorem steelyardref04_Floor.mono_l : ∀ k, (∀ y0 y1 y2, LeO (steelyardref04_Floor.l0 k y0 y1 y2) (steelyardref04_Floor.l0 (k + 1) y0 y1 y2))
  | 0 => fun _ _ _ r h => by simp [steelyardref04_Floor.l0] at h
  | k + 1 => by
    have ih0 := steelyardref04_Floor.mono_l k
    · intro y0 y1 y2
      unfold steelyardref04_Floor.l0
      repeat' first
       | with_reducible first
        | exact ih0 _ _ _
        | exact steelyardref01_Bits.mono _ _
        | exact steelyardref01_Cmp.mono _ _ _
        | exact steelyardref01_Trim.mono _ _
        | exact steelyardref02_Of.mono _ _ _
        | exact LeO.refl _
        | exact LeO.none _
        | refine LeO.ite ?_ ?_
        | refine LeO.bind ?_ (fun _ => ?_)
       | exact LeO.none _ | refine LeO.ite ?_ ?_ | refine LeO.bind ?_ (fun _ => ?_)
theorem steelyardref04_Floor.mono : ∀ a0 k, LeO (steelyardref04_Floor.f k a0) (steelyardref04_Floor.f (k + 1) a0) := by
  intro a0 k
  have ih0 := steelyardref04_Floor.mono_l k
  unfold steelyardref04_Floor.f
  repeat' first
   | with_reducible first
    | exact ih0 _ _ _
    | exact steelyardref01_Bits.mono _ _
    | exact steelyardref01_Cmp.mono _ _ _
    | exact steelyardref01_Trim.mono _ _
    | exact steelyardref02_Of.mono _ _ _
    | exact LeO.refl _
    | exact LeO.none _
    | refine LeO.ite ?_ ?_
    | refine LeO.bind ?_ (fun _ => ?_)
   | exact LeO.none _ | refine LeO.ite ?_ ?_ | refine LeO.bind ?_ (fun _ => ?_)
def steelyardref04_Exact.f (k : Nat) (l0 : List Int) : Option (Bool) := (steelyardref04_Floor.f k l0).bind fun t1121 => ((steelyardref02_Of.f k t1121 t1121).bind fun t1124 => ((steelyardref01_Cmp.f k t1124 l0).bind fun t1127 => (some (t1127 == 0))))
theorem steelyardref04_Exact.mono : ∀ a0 k, LeO (steelyardref04_Exact.f k a0) (steelyardref04_Exact.f (k + 1) a0) := by
  intro a0 k
  unfold steelyardref04_Exact.f
  repeat' first
   | with_reducible first
    | exact steelyardref01_Cmp.mono _ _ _
    | exact steelyardref02_Of.mono _ _ _
    | exact steelyardref04_Floor.mono _ _
    | exact LeO.refl _
    | exact LeO.none _
    | refine LeO.ite ?_ ?_
    | refine LeO.bind ?_ (fun _ => ?_)
   | exact LeO.none _ | refine LeO.ite ?_ ?_ | refine LeO.bind ?_ (fun _ => ?_)
end Go.Proofs.YtjgmmaeafodpmaaGreatDoor.P
set_option linter.unusedVariables false
set_option linter.unusedSimpArgs false
namespace Go.Proofs.YtjgmmaeafodpmaaGreatDoor.P
open Go.RowKit Go.Proofs.YtjgmmaeafodpmaaGreatDoorW.PrintWords Go.Proofs.YtjgmmaeafodpmaaGreatDoorW.PrintLast Go.Proofs.YtjgmmaeafodpmaaGreatDoorW.PrintMore
def steelyardref05_Ten.l0 : Nat → Int → List Int → Int → Option (List Int)
  | 0, _, _, _ => none
  | k + 1, x0, x3, x4 => if x4 < x0 then ((steelyardref02_Small.f k x3 10).bind fun t1103 => (steelyardref05_Ten.l0 k x0 t1103 (wrap64 (x4 + 1)))) else (some x3)
def steelyardref05_Ten.f (k : Nat) (a0 : Int) : Option (List Int) := steelyardref05_Ten.l0 k a0 (([1] : List Int)) 0
theorem steelyardref05_Ten.mono_l : ∀ k, (∀ y0 y1 y2, LeO (steelyardref05_Ten.l0 k y0 y1 y2) (steelyardref05_Ten.l0 (k + 1) y0 y1 y2))
  | 0 => fun _ _ _ r h => by simp [steelyardref05_Ten.l0] at h
  | k + 1 => by
    have ih0 := steelyardref05_Ten.mono_l k
    · intro y0 y1 y2
      unfold steelyardref05_Ten.l0
      repeat' first
       | with_reducible first
        | exact ih0 _ _ _
        | exact steelyardref02_Small.mono _ _ _
        | exact LeO.refl _
        | exact LeO.none _
        | refine LeO.ite ?_ ?_
        | refine LeO.bind ?_ (fun _ => ?_)
       | exact LeO.none _ | refine LeO.ite ?_ ?_ | refine LeO.bind ?_ (fun _ => ?_)
theorem steelyardref05_Ten.mono : ∀ a0 k, LeO (steelyardref05_Ten.f k a0) (steelyardref05_Ten.f (k + 1) a0) := by
  intro a0 k
  have ih0 := steelyardref05_Ten.mono_l k
  unfold steelyardref05_Ten.f
  repeat' first
   | with_reducible first
    | exact ih0 _ _ _
    | exact steelyardref02_Small.mono _ _ _
    | exact LeO.refl _
    | exact LeO.none _
    | refine LeO.ite ?_ ?_
    | refine LeO.bind ?_ (fun _ => ?_)
   | exact LeO.none _ | refine LeO.ite ?_ ?_ | refine LeO.bind ?_ (fun _ => ?_)
def steelyardref05_ten.l0 : Nat → List Int → List Int → Int → Int → Option (List Int × Int)
  | 0, _, _, _, _ => none
  | k + 1, x0, x4, x5, x6 => if x6 ≥ 0 then (if 0 ≤ x6 then (if x6 < (x0.length : Int) then (if x6 < (x4.length : Int) then (steelyardref05_ten.l0 k x0 (x4.set (x6 : Int).toNat ((IntKind.u64.wrap (Int.tdiv (Go.bits .or .u64 (IntKind.u64.wrap (x5 * 4294967296)) (IntKind.u64.wrap (rd x0 x6))) 10)) % 4294967296)) (Int.tmod (Go.bits .or .u64 (IntKind.u64.wrap (x5 * 4294967296)) (IntKind.u64.wrap (rd x0 x6))) 10) (wrap64 (x6 - 1))) else (none)) else (none)) else (none)) else ((steelyardref01_Trim.f k x4).bind fun t1275 => (some (t1275, (x5) % 256)))
def steelyardref05_ten.f (k : Nat) (l0 : List Int) : Option (List Int × Int) := (some (([] : List Int) : List Int)).bind fun y1267 => (if y1267.length + l0.length < 35184372088832 then (steelyardref05_ten.l0 k l0 (y1267 ++ l0) 0 (wrap64 ((l0.length : Int) - 1))) else (none))
theorem steelyardref05_ten.mono_l : ∀ k, (∀ y0 y1 y2 y3, LeO (steelyardref05_ten.l0 k y0 y1 y2 y3) (steelyardref05_ten.l0 (k + 1) y0 y1 y2 y3))
  | 0 => fun _ _ _ _ r h => by simp [steelyardref05_ten.l0] at h
  | k + 1 => by
    have ih0 := steelyardref05_ten.mono_l k
    · intro y0 y1 y2 y3
      unfold steelyardref05_ten.l0
      repeat' first
       | with_reducible first
        | exact ih0 _ _ _ _
        | exact steelyardref01_Trim.mono _ _
        | exact LeO.refl _
        | exact LeO.none _
        | refine LeO.ite ?_ ?_
        | refine LeO.bind ?_ (fun _ => ?_)
       | exact LeO.none _ | refine LeO.ite ?_ ?_ | refine LeO.bind ?_ (fun _ => ?_)
theorem steelyardref05_ten.mono : ∀ a0 k, LeO (steelyardref05_ten.f k a0) (steelyardref05_ten.f (k + 1) a0) := by
  intro a0 k
  have ih0 := steelyardref05_ten.mono_l k
  unfold steelyardref05_ten.f
  repeat' first
   | with_reducible first
    | exact ih0 _ _ _ _
    | exact steelyardref01_Trim.mono _ _
    | exact LeO.refl _
    | exact LeO.none _
    | refine LeO.ite ?_ ?_
    | refine LeO.bind ?_ (fun _ => ?_)
   | exact LeO.none _ | refine LeO.ite ?_ ?_ | refine LeO.bind ?_ (fun _ => ?_)
mutual
def steelyardref05_Text.l0 : Nat → List Int → List Int → Option (ByteArray)
  | 0, _, _ => none
  | k + 1, x3, x4 => if (x4.length : Int) > 0 then ((steelyardref05_ten.f k x4).bind fun bt1281 => (if x3.length < 140737488355328 then (steelyardref05_Text.l0 k (x3 ++ [(48 + bt1281.2) % 256]) bt1281.1) else (none))) else (if (x3.length : Int) = 0 then (some (⟨#[48]⟩ : ByteArray)) else (steelyardref05_Text.l1 k x3 0 (wrap64 ((x3.length : Int) - 1))))
def steelyardref05_Text.l1 : Nat → List Int → Int → Int → Option (ByteArray)
  | 0, _, _, _ => none
  | k + 1, x3, x7, x8 => if x7 < x8 then (if 0 ≤ x8 then (if x8 < (x3.length : Int) then (if 0 ≤ x7 then (if x7 < (x3.length : Int) then (steelyardref05_Text.l1 k ((x3.set (x7 : Int).toNat (rd x3 x8)).set (x8 : Int).toNat (rd x3 x7)) (wrap64 (x7 + 1)) (wrap64 (x8 - 1))) else (none)) else (none)) else (none)) else (none)) else (some (strOfNums x3))
end
def steelyardref05_Text.f (k : Nat) (l0 : List Int) : Option (ByteArray) := (steelyardref01_Trim.f k l0).bind fun t1278 => (steelyardref05_Text.l0 k ([] : List Int) t1278)
theorem steelyardref05_Text.mono_l : ∀ k, (∀ y0 y1, LeO (steelyardref05_Text.l0 k y0 y1) (steelyardref05_Text.l0 (k + 1) y0 y1)) ∧ (∀ y0 y1 y2, LeO (steelyardref05_Text.l1 k y0 y1 y2) (steelyardref05_Text.l1 (k + 1) y0 y1 y2))
  | 0 => ⟨fun _ _ r h => by simp [steelyardref05_Text.l0] at h, fun _ _ _ r h => by simp [steelyardref05_Text.l1] at h⟩
  | k + 1 => by
    obtain ⟨ih0, ih1⟩ := steelyardref05_Text.mono_l k
    refine ⟨?_, ?_⟩
    · intro y0 y1
      unfold steelyardref05_Text.l0
      repeat' first
       | with_reducible first
        | exact ih0 _ _
        | exact ih1 _ _ _
        | exact steelyardref01_Trim.mono _ _
        | exact steelyardref05_ten.mono _ _
        | exact LeO.refl _
        | exact LeO.none _
        | refine LeO.ite ?_ ?_
        | refine LeO.bind ?_ (fun _ => ?_)
       | exact LeO.none _ | refine LeO.ite ?_ ?_ | refine LeO.bind ?_ (fun _ => ?_)
    · intro y0 y1 y2
      unfold steelyardref05_Text.l1
      repeat' first
       | with_reducible first
        | exact ih0 _ _
        | exact ih1 _ _ _
        | exact steelyardref01_Trim.mono _ _
        | exact steelyardref05_ten.mono _ _
        | exact LeO.refl _
        | exact LeO.none _
        | refine LeO.ite ?_ ?_
        | refine LeO.bind ?_ (fun _ => ?_)
       | exact LeO.none _ | refine LeO.ite ?_ ?_ | refine LeO.bind ?_ (fun _ => ?_)
theorem steelyardref05_Text.mono : ∀ a0 k, LeO (steelyardref05_Text.f k a0) (steelyardref05_Text.f (k + 1) a0) := by
  intro a0 k
  obtain ⟨ih0, ih1⟩ := steelyardref05_Text.mono_l k
  unfold steelyardref05_Text.f
  repeat' first
   | with_reducible first
    | exact ih0 _ _
    | exact ih1 _ _ _
    | exact steelyardref01_Trim.mono _ _
    | exact steelyardref05_ten.mono _ _
    | exact LeO.refl _
    | exact LeO.none _
    | refine LeO.ite ?_ ?_
    | refine LeO.bind ?_ (fun _ => ?_)
   | exact LeO.none _ | refine LeO.ite ?_ ?_ | refine LeO.bind ?_ (fun _ => ?_)
end Go.Proofs.YtjgmmaeafodpmaaGreatDoor.P
set_option linter.unusedVariables false
set_option linter.unusedSimpArgs false
namespace Go.Proofs.YtjgmmaeafodpmaaGreatDoor.P
open Go.RowKit Go.Proofs.YtjgmmaeafodpmaaGreatDoorW.PrintWords Go.Proofs.YtjgmmaeafodpmaaGreatDoorW.PrintLast Go.Proofs.YtjgmmaeafodpmaaGreatDoorW.PrintMore
def steelyardref10_May.f (k : Nat) (a0_0 : Bool) (l0_1 : List Int) (l0_2 : List Int) (a1 : Int) : Option (Bool) := (steelyardref07_Good.f k a0_0 l0_1 l0_2).bind fun t1099 => (if t1099 = true then (if a1 ≥ 0 then (some (decide (a1 ≤ 60))) else (some false)) else (some false))
theorem steelyardref10_May.mono : ∀ a0 a1 a2 a3 k, LeO (steelyardref10_May.f k a0 a1 a2 a3) (steelyardref10_May.f (k + 1) a0 a1 a2 a3) := by
  intro a0 a1 a2 a3 k
  unfold steelyardref10_May.f
  repeat' first
   | with_reducible first
    | exact steelyardref07_Good.mono _ _ _ _
    | exact LeO.refl _
    | exact LeO.none _
    | refine LeO.ite ?_ ?_
    | refine LeO.bind ?_ (fun _ => ?_)
   | exact LeO.none _ | refine LeO.ite ?_ ?_ | refine LeO.bind ?_ (fun _ => ?_)
def steelyardref10_Floor.j0 : Nat → Bool → Bool → List Int → Option (Bool × List Int)
  | 0, _, _, _ => none
  | k + 1, x30, x1259000, x1259001 => if x30 = true then ((steelyardref06_Of.f k (-1)).bind fun bt1259 => ((steelyardref06_Add.f k x1259000 x1259001 bt1259.1 bt1259.2).bind fun bt1263 => (some (bt1263.1, bt1263.2)))) else (some (x1259000, x1259001))
def steelyardref10_Floor.f (k : Nat) (a0_0 : Bool) (l0_1 : List Int) (l0_2 : List Int) (a1 : Int) : Option (Bool × List Int) := (steelyardref05_Ten.f k a1).bind fun t1240 => ((steelyardref02_Of.f k l0_1 t1240).bind fun t1243 => ((steelyardref03_Rem.f k t1243 l0_2).bind fun bt1246 => ((steelyardref06_Make.f k a0_0 bt1246.1).bind fun bt1254 => (if a0_0 = true then (steelyardref10_Floor.j0 k (decide ((bt1246.2.1.length : Int) > 0)) bt1254.1 bt1254.2) else (steelyardref10_Floor.j0 k false bt1254.1 bt1254.2)))))
theorem steelyardref10_Floor.mono_l : ∀ k, (∀ y0 y1 y2, LeO (steelyardref10_Floor.j0 k y0 y1 y2) (steelyardref10_Floor.j0 (k + 1) y0 y1 y2))
  | 0 => fun _ _ _ r h => by simp [steelyardref10_Floor.j0] at h
  | k + 1 => by
    have ih0 := steelyardref10_Floor.mono_l k
    · intro y0 y1 y2
      unfold steelyardref10_Floor.j0
      repeat' first
       | with_reducible first
        | exact ih0 _ _ _
        | exact steelyardref02_Of.mono _ _ _
        | exact steelyardref03_Rem.mono _ _ _
        | exact steelyardref05_Ten.mono _ _
        | exact steelyardref06_Add.mono _ _ _ _ _
        | exact steelyardref06_Make.mono _ _ _
        | exact steelyardref06_Of.mono _ _
        | exact LeO.refl _
        | exact LeO.none _
        | refine LeO.ite ?_ ?_
        | refine LeO.bind ?_ (fun _ => ?_)
       | exact LeO.none _ | refine LeO.ite ?_ ?_ | refine LeO.bind ?_ (fun _ => ?_)
theorem steelyardref10_Floor.mono : ∀ a0 a1 a2 a3 k, LeO (steelyardref10_Floor.f k a0 a1 a2 a3) (steelyardref10_Floor.f (k + 1) a0 a1 a2 a3) := by
  intro a0 a1 a2 a3 k
  have ih0 := steelyardref10_Floor.mono_l k
  unfold steelyardref10_Floor.f
  repeat' first
   | with_reducible first
    | exact ih0 _ _ _
    | exact steelyardref02_Of.mono _ _ _
    | exact steelyardref03_Rem.mono _ _ _
    | exact steelyardref05_Ten.mono _ _
    | exact steelyardref06_Add.mono _ _ _ _ _
    | exact steelyardref06_Make.mono _ _ _
    | exact steelyardref06_Of.mono _ _
    | exact LeO.refl _
    | exact LeO.none _
    | refine LeO.ite ?_ ?_
    | refine LeO.bind ?_ (fun _ => ?_)
   | exact LeO.none _ | refine LeO.ite ?_ ?_ | refine LeO.bind ?_ (fun _ => ?_)
def steelyardref10_Point.l0 : Nat → Int → ByteArray → Bool → List Int → Option (ByteArray)
  | 0, _, _, _, _ => none
  | k + 1, x1, x5, x1293000, x1293001 => if (x5.size : Int) ≤ x1 then (if 1 + x5.size ≤ 9223372036854775807 then (steelyardref10_Point.l0 k x1 ((⟨#[48]⟩ : ByteArray) ++ x5) x1293000 x1293001) else (none)) else (if x1 > 0 then (if 0 ≤ (wrap64 ((x5.size : Int) - x1)) then (if (wrap64 ((x5.size : Int) - x1)) ≤ (x5.size : Int) then (if (x5.extract 0 ((wrap64 ((x5.size : Int) - x1)) : Int).toNat).size + 1 ≤ 9223372036854775807 then (if ((x5.extract 0 ((wrap64 ((x5.size : Int) - x1)) : Int).toNat) ++ (⟨#[46]⟩ : ByteArray)).size + (x5.extract ((wrap64 ((x5.size : Int) - x1)) : Int).toNat x5.size).size ≤ 9223372036854775807 then (if x1293000 = true then (if 1 + (((x5.extract 0 ((wrap64 ((x5.size : Int) - x1)) : Int).toNat) ++ (⟨#[46]⟩ : ByteArray)) ++ (x5.extract ((wrap64 ((x5.size : Int) - x1)) : Int).toNat x5.size)).size ≤ 9223372036854775807 then (some ((⟨#[45]⟩ : ByteArray) ++ (((x5.extract 0 ((wrap64 ((x5.size : Int) - x1)) : Int).toNat) ++ (⟨#[46]⟩ : ByteArray)) ++ (x5.extract ((wrap64 ((x5.size : Int) - x1)) : Int).toNat x5.size)))) else (none)) else (some (((x5.extract 0 ((wrap64 ((x5.size : Int) - x1)) : Int).toNat) ++ (⟨#[46]⟩ : ByteArray)) ++ (x5.extract ((wrap64 ((x5.size : Int) - x1)) : Int).toNat x5.size)))) else (none)) else (none)) else (none)) else (none)) else (if x1293000 = true then (if 1 + x5.size ≤ 9223372036854775807 then (some ((⟨#[45]⟩ : ByteArray) ++ x5)) else (none)) else (some x5)))
def steelyardref10_Point.f (k : Nat) (a0_0 : Bool) (l0_1 : List Int) (a1 : Int) : Option (ByteArray) := (steelyardref05_Text.f k l0_1).bind fun t1293 => (steelyardref10_Point.l0 k a1 t1293 a0_0 l0_1)
theorem steelyardref10_Point.mono_l : ∀ k, (∀ y0 y1 y2 y3, LeO (steelyardref10_Point.l0 k y0 y1 y2 y3) (steelyardref10_Point.l0 (k + 1) y0 y1 y2 y3))
  | 0 => fun _ _ _ _ r h => by simp [steelyardref10_Point.l0] at h
  | k + 1 => by
    have ih0 := steelyardref10_Point.mono_l k
    · intro y0 y1 y2 y3
      unfold steelyardref10_Point.l0
      repeat' first
       | with_reducible first
        | exact ih0 _ _ _ _
        | exact steelyardref05_Text.mono _ _
        | exact LeO.refl _
        | exact LeO.none _
        | refine LeO.ite ?_ ?_
        | refine LeO.bind ?_ (fun _ => ?_)
       | exact LeO.none _ | refine LeO.ite ?_ ?_ | refine LeO.bind ?_ (fun _ => ?_)
theorem steelyardref10_Point.mono : ∀ a0 a1 a2 k, LeO (steelyardref10_Point.f k a0 a1 a2) (steelyardref10_Point.f (k + 1) a0 a1 a2) := by
  intro a0 a1 a2 k
  have ih0 := steelyardref10_Point.mono_l k
  unfold steelyardref10_Point.f
  repeat' first
   | with_reducible first
    | exact ih0 _ _ _ _
    | exact steelyardref05_Text.mono _ _
    | exact LeO.refl _
    | exact LeO.none _
    | refine LeO.ite ?_ ?_
    | refine LeO.bind ?_ (fun _ => ?_)
   | exact LeO.none _ | refine LeO.ite ?_ ?_ | refine LeO.bind ?_ (fun _ => ?_)
def steelyardref10_Down.f (k : Nat) (a0_0 : Bool) (l0_1 : List Int) (l0_2 : List Int) (a1 : Int) : Option (ByteArray) := (steelyardref10_Floor.f k a0_0 l0_1 l0_2 a1).bind fun bt1295 => ((steelyardref10_Point.f k bt1295.1 bt1295.2 a1).bind fun t1299 => (some t1299))
theorem steelyardref10_Down.mono : ∀ a0 a1 a2 a3 k, LeO (steelyardref10_Down.f k a0 a1 a2 a3) (steelyardref10_Down.f (k + 1) a0 a1 a2 a3) := by
  intro a0 a1 a2 a3 k
  unfold steelyardref10_Down.f
  repeat' first
   | with_reducible first
    | exact steelyardref10_Floor.mono _ _ _ _ _
    | exact steelyardref10_Point.mono _ _ _ _
    | exact LeO.refl _
    | exact LeO.none _
    | refine LeO.ite ?_ ?_
    | refine LeO.bind ?_ (fun _ => ?_)
   | exact LeO.none _ | refine LeO.ite ?_ ?_ | refine LeO.bind ?_ (fun _ => ?_)
end Go.Proofs.YtjgmmaeafodpmaaGreatDoor.P
set_option linter.unusedVariables false
set_option linter.unusedSimpArgs false
namespace Go.Proofs.YtjgmmaeafodpmaaGreatDoor.P
open Go.RowKit Go.Proofs.YtjgmmaeafodpmaaGreatDoorW.PrintWords Go.Proofs.YtjgmmaeafodpmaaGreatDoorW.PrintLast Go.Proofs.YtjgmmaeafodpmaaGreatDoorW.PrintMore
mutual
def steelyardref25_Root.j0 : Nat → List Int → List Int → List Int → Bool → Option (Bool × List Int × List Int × Bool × List Int × List Int × Int)
  | 0, _, _, _, _ => none
  | k + 1, x5, x8, x9, x47 => if x47 = true then ((steelyardref01_Add.f k x8 (([1] : List Int))).bind fun t1174 => (steelyardref25_Root.j1 k x5 x8 t1174)) else (steelyardref25_Root.j1 k x5 x8 x9)
def steelyardref25_Root.j1 : Nat → List Int → List Int → List Int → Option (Bool × List Int × List Int × Bool × List Int × List Int × Int)
  | 0, _, _, _ => none
  | k + 1, x5, x8, x9 => (steelyardref06_Make.f k false x8).bind fun bt1177 => ((steelyardref07_Of.f k bt1177.1 bt1177.2 x5).bind fun bt1181 => ((steelyardref06_Make.f k false x9).bind fun bt1189 => ((steelyardref07_Of.f k bt1189.1 bt1189.2 x5).bind fun bt1193 => (if bt1181.2.2.2 = 0 then (if bt1193.2.2.2 = 0 then (some (bt1181.1, bt1181.2.1, bt1181.2.2.1, bt1193.1, bt1193.2.1, bt1193.2.2.1, 0)) else (some (false, ([] : List Int), ([] : List Int), false, ([] : List Int), ([] : List Int), 2))) else (some (false, ([] : List Int), ([] : List Int), false, ([] : List Int), ([] : List Int), 2))))))
end
def steelyardref25_Root.f (k : Nat) (a0_0 : Bool) (l0_1 : List Int) (l0_2 : List Int) (a1 : Int) : Option (Bool × List Int × List Int × Bool × List Int × List Int × Int) := (steelyardref10_May.f k a0_0 l0_1 l0_2 a1).bind fun t1148 => (if t1148 = true then ((steelyardref07_Sign.f k a0_0 l0_1 l0_2).bind fun t1149 => (if t1149 < 0 then (some (false, ([] : List Int), ([] : List Int), false, ([] : List Int), ([] : List Int), 18)) else ((steelyardref05_Ten.f k a1).bind fun t1150 => ((steelyardref02_Of.f k t1150 t1150).bind fun t1153 => ((steelyardref02_Of.f k l0_1 t1153).bind fun t1156 => ((steelyardref03_Rem.f k t1156 l0_2).bind fun bt1159 => ((steelyardref04_Floor.f k bt1159.1).bind fun t1167 => (if (bt1159.2.1.length : Int) > 0 then (steelyardref25_Root.j0 k t1150 t1167 t1167 true) else ((steelyardref04_Exact.f k bt1159.1).bind fun t1170 => (steelyardref25_Root.j0 k t1150 t1167 t1167 (!t1170))))))))))) else (some (false, ([] : List Int), ([] : List Int), false, ([] : List Int), ([] : List Int), 1)))
theorem steelyardref25_Root.mono_l : ∀ k, (∀ y0 y1 y2 y3, LeO (steelyardref25_Root.j0 k y0 y1 y2 y3) (steelyardref25_Root.j0 (k + 1) y0 y1 y2 y3)) ∧ (∀ y0 y1 y2, LeO (steelyardref25_Root.j1 k y0 y1 y2) (steelyardref25_Root.j1 (k + 1) y0 y1 y2))
  | 0 => ⟨fun _ _ _ _ r h => by simp [steelyardref25_Root.j0] at h, fun _ _ _ r h => by simp [steelyardref25_Root.j1] at h⟩
  | k + 1 => by
    obtain ⟨ih0, ih1⟩ := steelyardref25_Root.mono_l k
    refine ⟨?_, ?_⟩
    · intro y0 y1 y2 y3
      unfold steelyardref25_Root.j0
      repeat' first
       | with_reducible first
        | exact ih0 _ _ _ _
        | exact ih1 _ _ _
        | exact steelyardref01_Add.mono _ _ _
        | exact steelyardref02_Of.mono _ _ _
        | exact steelyardref03_Rem.mono _ _ _
        | exact steelyardref04_Exact.mono _ _
        | exact steelyardref04_Floor.mono _ _
        | exact steelyardref05_Ten.mono _ _
        | exact steelyardref06_Make.mono _ _ _
        | exact steelyardref07_Of.mono _ _ _ _
        | exact steelyardref07_Sign.mono _ _ _ _
        | exact steelyardref10_May.mono _ _ _ _ _
        | exact LeO.refl _
        | exact LeO.none _
        | refine LeO.ite ?_ ?_
        | refine LeO.bind ?_ (fun _ => ?_)
       | exact LeO.none _ | refine LeO.ite ?_ ?_ | refine LeO.bind ?_ (fun _ => ?_)
    · intro y0 y1 y2
      unfold steelyardref25_Root.j1
      repeat' first
       | with_reducible first
        | exact ih0 _ _ _ _
        | exact ih1 _ _ _
        | exact steelyardref01_Add.mono _ _ _
        | exact steelyardref02_Of.mono _ _ _
        | exact steelyardref03_Rem.mono _ _ _
        | exact steelyardref04_Exact.mono _ _
        | exact steelyardref04_Floor.mono _ _
        | exact steelyardref05_Ten.mono _ _
        | exact steelyardref06_Make.mono _ _ _
        | exact steelyardref07_Of.mono _ _ _ _
        | exact steelyardref07_Sign.mono _ _ _ _
        | exact steelyardref10_May.mono _ _ _ _ _
        | exact LeO.refl _
        | exact LeO.none _
        | refine LeO.ite ?_ ?_
        | refine LeO.bind ?_ (fun _ => ?_)
       | exact LeO.none _ | refine LeO.ite ?_ ?_ | refine LeO.bind ?_ (fun _ => ?_)
theorem steelyardref25_Root.mono : ∀ a0 a1 a2 a3 k, LeO (steelyardref25_Root.f k a0 a1 a2 a3) (steelyardref25_Root.f (k + 1) a0 a1 a2 a3) := by
  intro a0 a1 a2 a3 k
  obtain ⟨ih0, ih1⟩ := steelyardref25_Root.mono_l k
  unfold steelyardref25_Root.f
  repeat' first
   | with_reducible first
    | exact ih0 _ _ _ _
    | exact ih1 _ _ _
    | exact steelyardref01_Add.mono _ _ _
    | exact steelyardref02_Of.mono _ _ _
    | exact steelyardref03_Rem.mono _ _ _
    | exact steelyardref04_Exact.mono _ _
    | exact steelyardref04_Floor.mono _ _
    | exact steelyardref05_Ten.mono _ _
    | exact steelyardref06_Make.mono _ _ _
    | exact steelyardref07_Of.mono _ _ _ _
    | exact steelyardref07_Sign.mono _ _ _ _
    | exact steelyardref10_May.mono _ _ _ _ _
    | exact LeO.refl _
    | exact LeO.none _
    | refine LeO.ite ?_ ?_
    | refine LeO.bind ?_ (fun _ => ?_)
   | exact LeO.none _ | refine LeO.ite ?_ ?_ | refine LeO.bind ?_ (fun _ => ?_)
end Go.Proofs.YtjgmmaeafodpmaaGreatDoor.P

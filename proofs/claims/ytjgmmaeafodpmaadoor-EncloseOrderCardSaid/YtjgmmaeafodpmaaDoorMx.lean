/- Plain functions: what the Go functions of a package come to. · Plain functions: what the Go functions of a package come to. · Plain functions: what the Go functions of a package come to. · Plain functions: what the Go functions of a package come to. · Plain functions: what the Go functions of a package come to. · Plain functions: what the Go functions of a package come to. · Plain functions: what the Go functions of a package come to. · Plain functions: what the Go functions of a package come to. · Plain functions: what the Go functions of a package come to. · Plain functions: what the Go functions of a package come to. · Plain functions: what the Go functions of a package come to. · Plain functions: what the Go functions of a package come to. · Plain functions: what the Go functions of a package come to. · Plain functions: what the Go functions of a package come to. · Plain functions: what the Go functions of a package come to. · Plain functions: what the Go functions of a package come to. · Plain functions: what the Go functions of a package come to. · Plain functions: what the Go functions of a package come to. -/
import Derived.Test.YtjgmmaeafodpmaaDoorYWords
import Derived.Lib.Strings
import Derived.Lib.CutLaws
import Derived.Lib.Repeat
set_option linter.unusedVariables false
set_option linter.unusedSimpArgs false
namespace Go.Proofs.YtjgmmaeafodpmaaDoor.P
open Go.RowKit Go.Proofs.YtjgmmaeafodpmaaDoorW.PrintWords Go.Proofs.YtjgmmaeafodpmaaDoorW.PrintLast Go.Proofs.YtjgmmaeafodpmaaDoorW.PrintMore
def cmp_isNaN_int.f (a0 : Int) : Option (Bool) := some (a0 != a0)
def cmp_Compare_int.f (a0 : Int) (a1 : Int) : Option (Int) := (cmp_isNaN_int.f a0).bind fun t224 => ((cmp_isNaN_int.f a1).bind fun t225 => (if t224 = true then (if t225 = true then (some 0) else (some (-1))) else (if t225 = true then (some 1) else (if a0 < a1 then (some (-1)) else (if a0 > a1 then (some 1) else (some 0))))))
def cmp_isNaN_uint32.f (a0 : Int) : Option (Bool) := some (a0 != a0)
def cmp_Compare_uint32.f (a0 : Int) (a1 : Int) : Option (Int) := (cmp_isNaN_uint32.f a0).bind fun t226 => ((cmp_isNaN_uint32.f a1).bind fun t227 => (if t226 = true then (if t227 = true then (some 0) else (some (-1))) else (if t227 = true then (some 1) else (if a0 < a1 then (some (-1)) else (if a0 > a1 then (some 1) else (some 0))))))
def len8_ : ByteArray := ⟨(([0, 1, 2, 2, 3, 3, 3, 3, 4, 4, 4, 4, 4, 4, 4, 4, 5, 5, 5, 5, 5, 5, 5, 5, 5, 5, 5, 5, 5, 5, 5, 5, 6, 6, 6, 6, 6, 6, 6, 6, 6, 6, 6, 6, 6, 6, 6, 6, 6, 6, 6, 6, 6, 6, 6, 6, 6, 6, 6, 6, 6, 6, 6, 6].append [7, 7, 7, 7, 7, 7, 7, 7, 7, 7, 7, 7, 7, 7, 7, 7, 7, 7, 7, 7, 7, 7, 7, 7, 7, 7, 7, 7, 7, 7, 7, 7, 7, 7, 7, 7, 7, 7, 7, 7, 7, 7, 7, 7, 7, 7, 7, 7, 7, 7, 7, 7, 7, 7, 7, 7, 7, 7, 7, 7, 7, 7, 7, 7]).append ([8, 8, 8, 8, 8, 8, 8, 8, 8, 8, 8, 8, 8, 8, 8, 8, 8, 8, 8, 8, 8, 8, 8, 8, 8, 8, 8, 8, 8, 8, 8, 8, 8, 8, 8, 8, 8, 8, 8, 8, 8, 8, 8, 8, 8, 8, 8, 8, 8, 8, 8, 8, 8, 8, 8, 8, 8, 8, 8, 8, 8, 8, 8, 8].append [8, 8, 8, 8, 8, 8, 8, 8, 8, 8, 8, 8, 8, 8, 8, 8, 8, 8, 8, 8, 8, 8, 8, 8, 8, 8, 8, 8, 8, 8, 8, 8, 8, 8, 8, 8, 8, 8, 8, 8, 8, 8, 8, 8, 8, 8, 8, 8, 8, 8, 8, 8, 8, 8, 8, 8, 8, 8, 8, 8, 8, 8, 8, 8])).toArray⟩
def bits_Len32.f (a0 : Int) : Option (Int) := if a0 ≥ 65536 then (if (a0 / 65536) ≥ 256 then (if 0 ≤ (((a0 / 65536) / 256) % 256) then (if (((a0 / 65536) / 256) % 256) < 256 then (some (wrap64 ((16 + 8) + (wrap64 (bt len8_ (((a0 / 65536) / 256) % 256)))))) else (none)) else (none)) else (if 0 ≤ ((a0 / 65536) % 256) then (if ((a0 / 65536) % 256) < 256 then (some (wrap64 (16 + (wrap64 (bt len8_ ((a0 / 65536) % 256)))))) else (none)) else (none))) else (if a0 ≥ 256 then (if 0 ≤ ((a0 / 256) % 256) then (if ((a0 / 256) % 256) < 256 then (some (wrap64 ((0 + 8) + (wrap64 (bt len8_ ((a0 / 256) % 256)))))) else (none)) else (none)) else (if 0 ≤ ((a0) % 256) then (if ((a0) % 256) < 256 then (some (wrap64 (0 + (wrap64 (bt len8_ ((a0) % 256)))))) else (none)) else (none)))
def bits_LeadingZeros32.f (a0 : Int) : Option (Int) := (bits_Len32.f a0).bind fun t234 => (some (wrap64 (32 - t234)))
def bits_Sub32.f (a0 : Int) (a1 : Int) (a2 : Int) : Option (Int × Int) := some ((((a0 - a1) % 4294967296) - a2) % 4294967296, (Go.bits .or .u32 (Go.bits .and .u32 (Go.bits .xor .u32 4294967295 a0) a1) (Go.bits .and .u32 (Go.bits .xor .u32 4294967295 (Go.bits .xor .u32 a0 a1)) ((((a0 - a1) % 4294967296) - a2) % 4294967296))) / 2147483648)
def bits_Add32.f (a0 : Int) (a1 : Int) (a2 : Int) : Option (Int × Int) := some ((IntKind.u64.wrap ((IntKind.u64.wrap ((IntKind.u64.wrap (a0)) + (IntKind.u64.wrap (a1)))) + (IntKind.u64.wrap (a2)))) % 4294967296, ((IntKind.u64.wrap ((IntKind.u64.wrap ((IntKind.u64.wrap (a0)) + (IntKind.u64.wrap (a1)))) + (IntKind.u64.wrap (a2)))) / 4294967296) % 4294967296)
def bits_Div32.f (a0 : Int) (a1 : Int) (a2 : Int) : Option (Int × Int) := if a2 = 0 then (if (IntKind.u64.wrap (a2)) = 0 then (none) else (some ((IntKind.u64.wrap (Int.tdiv (Go.bits .or .u64 (IntKind.u64.wrap ((IntKind.u64.wrap (a0)) * 4294967296)) (IntKind.u64.wrap (a1))) (IntKind.u64.wrap (a2)))) % 4294967296, (Int.tmod (Go.bits .or .u64 (IntKind.u64.wrap ((IntKind.u64.wrap (a0)) * 4294967296)) (IntKind.u64.wrap (a1))) (IntKind.u64.wrap (a2))) % 4294967296))) else (if a2 ≤ a0 then (none) else (if (IntKind.u64.wrap (a2)) = 0 then (none) else (some ((IntKind.u64.wrap (Int.tdiv (Go.bits .or .u64 (IntKind.u64.wrap ((IntKind.u64.wrap (a0)) * 4294967296)) (IntKind.u64.wrap (a1))) (IntKind.u64.wrap (a2)))) % 4294967296, (Int.tmod (Go.bits .or .u64 (IntKind.u64.wrap ((IntKind.u64.wrap (a0)) * 4294967296)) (IntKind.u64.wrap (a1))) (IntKind.u64.wrap (a2))) % 4294967296))))
def slices_Reverse_byte_byte.l0 : Nat → List Int → Int → Int → Option (List Int)
  | 0, _, _, _ => none
  | k + 1, x0, x2, x3 => if x2 < x3 then (if 0 ≤ x3 then (if x3 < (x0.length : Int) then (if 0 ≤ x2 then (if x2 < (x0.length : Int) then (slices_Reverse_byte_byte.l0 k ((x0.set (x2 : Int).toNat (rd x0 x3)).set (x3 : Int).toNat (rd x0 x2)) (wrap64 (x2 + 1)) (wrap64 (x3 - 1))) else (none)) else (none)) else (none)) else (none)) else (some x0)
def slices_Reverse_byte_byte.f (k : Nat) (l0 : List Int) : Option (List Int) := slices_Reverse_byte_byte.l0 k l0 0 (wrap64 ((l0.length : Int) - 1))
theorem slices_Reverse_byte_byte.mono_l : ∀ k, (∀ y0 y1 y2, LeO (slices_Reverse_byte_byte.l0 k y0 y1 y2) (slices_Reverse_byte_byte.l0 (k + 1) y0 y1 y2))
  | 0 => fun _ _ _ r h => by simp [slices_Reverse_byte_byte.l0] at h
  | k + 1 => by
    have ih0 := slices_Reverse_byte_byte.mono_l k
    · intro y0 y1 y2
      unfold slices_Reverse_byte_byte.l0
      repeat' first
       | with_reducible first
        | exact ih0 _ _ _
        | exact LeO.refl _
        | exact LeO.none _
        | refine LeO.ite ?_ ?_
        | refine LeO.bind ?_ (fun _ => ?_)
       | exact LeO.none _ | refine LeO.ite ?_ ?_ | refine LeO.bind ?_ (fun _ => ?_)
theorem slices_Reverse_byte_byte.mono : ∀ a0 k, LeO (slices_Reverse_byte_byte.f k a0) (slices_Reverse_byte_byte.f (k + 1) a0) := by
  intro a0 k
  have ih0 := slices_Reverse_byte_byte.mono_l k
  unfold slices_Reverse_byte_byte.f
  repeat' first
   | with_reducible first
    | exact ih0 _ _ _
    | exact LeO.refl _
    | exact LeO.none _
    | refine LeO.ite ?_ ?_
    | refine LeO.bind ?_ (fun _ => ?_)
   | exact LeO.none _ | refine LeO.ite ?_ ?_ | refine LeO.bind ?_ (fun _ => ?_)
def bits_Mul32.f (a0 : Int) (a1 : Int) : Option (Int × Int) := some (((IntKind.u64.wrap ((IntKind.u64.wrap (a0)) * (IntKind.u64.wrap (a1)))) / 4294967296) % 4294967296, (IntKind.u64.wrap ((IntKind.u64.wrap (a0)) * (IntKind.u64.wrap (a1)))) % 4294967296)
def bits_Mul64.f (a0 : Int) (a1 : Int) : Option (Int × Int) := some (IntKind.u64.wrap ((IntKind.u64.wrap ((IntKind.u64.wrap ((a0 / 4294967296) * (a1 / 4294967296))) + ((IntKind.u64.wrap ((IntKind.u64.wrap ((a0 / 4294967296) * (Go.bits .and .u64 a1 4294967295))) + ((IntKind.u64.wrap ((Go.bits .and .u64 a0 4294967295) * (Go.bits .and .u64 a1 4294967295))) / 4294967296))) / 4294967296))) + ((IntKind.u64.wrap ((Go.bits .and .u64 (IntKind.u64.wrap ((IntKind.u64.wrap ((a0 / 4294967296) * (Go.bits .and .u64 a1 4294967295))) + ((IntKind.u64.wrap ((Go.bits .and .u64 a0 4294967295) * (Go.bits .and .u64 a1 4294967295))) / 4294967296))) 4294967295) + (IntKind.u64.wrap ((Go.bits .and .u64 a0 4294967295) * (a1 / 4294967296))))) / 4294967296)), IntKind.u64.wrap (a0 * a1))
def bits_Mul.f (a0 : Int) (a1 : Int) : Option (Int × Int) := (bits_Mul64.f a0 a1).bind fun bt871 => (some (bt871.1, bt871.2))
def stringslite_HasPrefix.f (a0 : ByteArray) (a1 : ByteArray) : Option (Bool) := if (a0.size : Int) ≥ (a1.size : Int) then (if 0 ≤ (a1.size : Int) then (if (a1.size : Int) ≤ (a0.size : Int) then (some ((a0.extract 0 ((a1.size : Int) : Int).toNat).toList == a1.toList)) else (none)) else (none)) else (some false)
def strings_HasPrefix.f (a0 : ByteArray) (a1 : ByteArray) : Option (Bool) := (stringslite_HasPrefix.f a0 a1).bind fun t873 => (some t873)
def strings_Repeat.f (a0 : ByteArray) (a1 : Int) : Option (ByteArray) := if 0 ≤ a1 then (if a1 ≤ 9223372036854775807 then (if a0.size * a1.toNat ≤ 140737488355328 then some ⟨(Go.Lib.repeatL a0.data.toList a1.toNat).toArray⟩ else none) else none) else none
end Go.Proofs.YtjgmmaeafodpmaaDoor.P
set_option linter.unusedVariables false
set_option linter.unusedSimpArgs false
namespace Go.Proofs.YtjgmmaeafodpmaaDoor.P
open Go.RowKit Go.Proofs.YtjgmmaeafodpmaaDoorW.PrintWords Go.Proofs.YtjgmmaeafodpmaaDoorW.PrintLast Go.Proofs.YtjgmmaeafodpmaaDoorW.PrintMore
def nat_used.l0 : Nat → List Int → Int → Option (Int)
  | 0, _, _ => none
  | k + 1, x0, x3 => if x3 > 0 then (if 0 ≤ (wrap64 (x3 - 1)) then (if (wrap64 (x3 - 1)) < (x0.length : Int) then (if (rd x0 (wrap64 (x3 - 1))) = 0 then (nat_used.l0 k x0 (wrap64 (x3 - 1))) else (some x3)) else (none)) else (none)) else (some x3)
def nat_used.f (k : Nat) (l0 : List Int) : Option (Int) := nat_used.l0 k l0 (l0.length : Int)
theorem nat_used.mono_l : ∀ k, (∀ y0 y1, LeO (nat_used.l0 k y0 y1) (nat_used.l0 (k + 1) y0 y1))
  | 0 => fun _ _ r h => by simp [nat_used.l0] at h
  | k + 1 => by
    have ih0 := nat_used.mono_l k
    · intro y0 y1
      unfold nat_used.l0
      repeat' first
       | with_reducible first
        | exact ih0 _ _
        | exact LeO.refl _
        | exact LeO.none _
        | refine LeO.ite ?_ ?_
        | refine LeO.bind ?_ (fun _ => ?_)
       | exact LeO.none _ | refine LeO.ite ?_ ?_ | refine LeO.bind ?_ (fun _ => ?_)
theorem nat_used.mono : ∀ a0 k, LeO (nat_used.f k a0) (nat_used.f (k + 1) a0) := by
  intro a0 k
  have ih0 := nat_used.mono_l k
  unfold nat_used.f
  repeat' first
   | with_reducible first
    | exact ih0 _ _
    | exact LeO.refl _
    | exact LeO.none _
    | refine LeO.ite ?_ ?_
    | refine LeO.bind ?_ (fun _ => ?_)
   | exact LeO.none _ | refine LeO.ite ?_ ?_ | refine LeO.bind ?_ (fun _ => ?_)
def nat_Trim.f (k : Nat) (l0 : List Int) : Option (List Int) := (nat_used.f k l0).bind fun t212 => (if 0 ≤ t212 then (if (t212 : Int).toNat ≤ 70368744177664 then (some (cpy (List.replicate (t212 : Int).toNat 0) 0 l0)) else (none)) else (none))
theorem nat_Trim.mono : ∀ a0 k, LeO (nat_Trim.f k a0) (nat_Trim.f (k + 1) a0) := by
  intro a0 k
  unfold nat_Trim.f
  repeat' first
   | with_reducible first
    | exact nat_used.mono _ _
    | exact LeO.refl _
    | exact LeO.none _
    | refine LeO.ite ?_ ?_
    | refine LeO.bind ?_ (fun _ => ?_)
   | exact LeO.none _ | refine LeO.ite ?_ ?_ | refine LeO.bind ?_ (fun _ => ?_)
def nat_Of.f (k : Nat) (a0 : Int) : Option (List Int) := (nat_Trim.f k (([(a0) % 4294967296, (a0 / 4294967296) % 4294967296] : List Int))).bind fun t220 => (some t220)
theorem nat_Of.mono : ∀ a0 k, LeO (nat_Of.f k a0) (nat_Of.f (k + 1) a0) := by
  intro a0 k
  unfold nat_Of.f
  repeat' first
   | with_reducible first
    | exact nat_Trim.mono _ _
    | exact LeO.refl _
    | exact LeO.none _
    | refine LeO.ite ?_ ?_
    | refine LeO.bind ?_ (fun _ => ?_)
   | exact LeO.none _ | refine LeO.ite ?_ ?_ | refine LeO.bind ?_ (fun _ => ?_)
def nat_Cmp.l0 : Nat → List Int → List Int → Int → Option (Int)
  | 0, _, _, _ => none
  | k + 1, x0, x1, x7 => if x7 ≥ 0 then (if 0 ≤ x7 then (if x7 < (x0.length : Int) then (if x7 < (x1.length : Int) then ((cmp_Compare_uint32.f (rd x0 x7) (rd x1 x7)).bind fun t233 => (if t233 = 0 then (nat_Cmp.l0 k x0 x1 (wrap64 (x7 - 1))) else (some t233))) else (none)) else (none)) else (none)) else (some 0)
def nat_Cmp.f (k : Nat) (l0 : List Int) (l1 : List Int) : Option (Int) := (nat_used.f k l0).bind fun t228 => ((nat_used.f k l1).bind fun t229 => ((cmp_Compare_int.f t228 t229).bind fun t230 => (if t230 = 0 then (nat_Cmp.l0 k l0 l1 (wrap64 (t228 - 1))) else (some t230))))
theorem nat_Cmp.mono_l : ∀ k, (∀ y0 y1 y2, LeO (nat_Cmp.l0 k y0 y1 y2) (nat_Cmp.l0 (k + 1) y0 y1 y2))
  | 0 => fun _ _ _ r h => by simp [nat_Cmp.l0] at h
  | k + 1 => by
    have ih0 := nat_Cmp.mono_l k
    · intro y0 y1 y2
      unfold nat_Cmp.l0
      repeat' first
       | with_reducible first
        | exact ih0 _ _ _
        | exact nat_used.mono _ _
        | exact LeO.refl _
        | exact LeO.none _
        | refine LeO.ite ?_ ?_
        | refine LeO.bind ?_ (fun _ => ?_)
       | exact LeO.none _ | refine LeO.ite ?_ ?_ | refine LeO.bind ?_ (fun _ => ?_)
theorem nat_Cmp.mono : ∀ a0 a1 k, LeO (nat_Cmp.f k a0 a1) (nat_Cmp.f (k + 1) a0 a1) := by
  intro a0 a1 k
  have ih0 := nat_Cmp.mono_l k
  unfold nat_Cmp.f
  repeat' first
   | with_reducible first
    | exact ih0 _ _ _
    | exact nat_used.mono _ _
    | exact LeO.refl _
    | exact LeO.none _
    | refine LeO.ite ?_ ?_
    | refine LeO.bind ?_ (fun _ => ?_)
   | exact LeO.none _ | refine LeO.ite ?_ ?_ | refine LeO.bind ?_ (fun _ => ?_)
def nat_at.f (l0 : List Int) (a1 : Int) : Option (Int) := if a1 < (l0.length : Int) then (if 0 ≤ a1 then (some (rd l0 a1)) else (none)) else (some 0)
def nat_Sub.l0 : Nat → List Int → List Int → Int → Int → Int → Option (List Int × Bool)
  | 0, _, _, _, _, _ => none
  | k + 1, x1, x6, x7, x16, x17 => if x17 < x16 then (if 0 ≤ x17 then (if x17 < (x6.length : Int) then ((nat_at.f x1 x17).bind fun t313 => ((bits_Sub32.f (rd x6 x17) t313 x7).bind fun bt314 => (nat_Sub.l0 k x1 (x6.set (x17 : Int).toNat bt314.1) bt314.2 x16 (wrap64 (x17 + 1))))) else (none)) else (none)) else ((nat_Trim.f k x6).bind fun t317 => (some (t317, true)))
def nat_Sub.f (k : Nat) (l0 : List Int) (l1 : List Int) : Option (List Int × Bool) := (nat_Cmp.f k l0 l1).bind fun t308 => (if t308 < 0 then (some (([] : List Int), false)) else ((nat_Trim.f k l0).bind fun t309 => (nat_Sub.l0 k l1 t309 0 (t309.length : Int) 0)))
theorem nat_Sub.mono_l : ∀ k, (∀ y0 y1 y2 y3 y4, LeO (nat_Sub.l0 k y0 y1 y2 y3 y4) (nat_Sub.l0 (k + 1) y0 y1 y2 y3 y4))
  | 0 => fun _ _ _ _ _ r h => by simp [nat_Sub.l0] at h
  | k + 1 => by
    have ih0 := nat_Sub.mono_l k
    · intro y0 y1 y2 y3 y4
      unfold nat_Sub.l0
      repeat' first
       | with_reducible first
        | exact ih0 _ _ _ _ _
        | exact nat_Cmp.mono _ _ _
        | exact nat_Trim.mono _ _
        | exact LeO.refl _
        | exact LeO.none _
        | refine LeO.ite ?_ ?_
        | refine LeO.bind ?_ (fun _ => ?_)
       | exact LeO.none _ | refine LeO.ite ?_ ?_ | refine LeO.bind ?_ (fun _ => ?_)
theorem nat_Sub.mono : ∀ a0 a1 k, LeO (nat_Sub.f k a0 a1) (nat_Sub.f (k + 1) a0 a1) := by
  intro a0 a1 k
  have ih0 := nat_Sub.mono_l k
  unfold nat_Sub.f
  repeat' first
   | with_reducible first
    | exact ih0 _ _ _ _ _
    | exact nat_Cmp.mono _ _ _
    | exact nat_Trim.mono _ _
    | exact LeO.refl _
    | exact LeO.none _
    | refine LeO.ite ?_ ?_
    | refine LeO.bind ?_ (fun _ => ?_)
   | exact LeO.none _ | refine LeO.ite ?_ ?_ | refine LeO.bind ?_ (fun _ => ?_)
def nat_Add.l0 : Nat → List Int → List Int → List Int → Int → Int → Int → Option (List Int)
  | 0, _, _, _, _, _, _ => none
  | k + 1, x0, x1, x5, x6, x19, x20 => if x20 < x19 then ((nat_at.f x0 x20).bind fun t434 => ((nat_at.f x1 x20).bind fun t435 => ((bits_Add32.f t434 t435 x6).bind fun bt436 => (if 0 ≤ x20 then (if x20 < (x5.length : Int) then (nat_Add.l0 k x0 x1 (x5.set (x20 : Int).toNat bt436.1) bt436.2 x19 (wrap64 (x20 + 1))) else (none)) else (none))))) else ((nat_Trim.f k x5).bind fun t439 => (some t439))
def nat_Add.f (k : Nat) (l0 : List Int) (l1 : List Int) : Option (List Int) := (nat_used.f k l0).bind fun t428 => ((nat_used.f k l1).bind fun t429 => (if 0 ≤ (wrap64 ((mx t428 t429) + 1)) then (if (wrap64 ((mx t428 t429) + 1) : Int).toNat ≤ 70368744177664 then ((some (List.replicate (wrap64 ((mx t428 t429) + 1) : Int).toNat 0 : List Int)).bind fun y430 => (nat_Add.l0 k l0 l1 (cpy y430 0 l0) 0 (y430.length : Int) 0)) else (none)) else (none)))
theorem nat_Add.mono_l : ∀ k, (∀ y0 y1 y2 y3 y4 y5, LeO (nat_Add.l0 k y0 y1 y2 y3 y4 y5) (nat_Add.l0 (k + 1) y0 y1 y2 y3 y4 y5))
  | 0 => fun _ _ _ _ _ _ r h => by simp [nat_Add.l0] at h
  | k + 1 => by
    have ih0 := nat_Add.mono_l k
    · intro y0 y1 y2 y3 y4 y5
      unfold nat_Add.l0
      repeat' first
       | with_reducible first
        | exact ih0 _ _ _ _ _ _
        | exact nat_Trim.mono _ _
        | exact nat_used.mono _ _
        | exact LeO.refl _
        | exact LeO.none _
        | refine LeO.ite ?_ ?_
        | refine LeO.bind ?_ (fun _ => ?_)
       | exact LeO.none _ | refine LeO.ite ?_ ?_ | refine LeO.bind ?_ (fun _ => ?_)
theorem nat_Add.mono : ∀ a0 a1 k, LeO (nat_Add.f k a0 a1) (nat_Add.f (k + 1) a0 a1) := by
  intro a0 a1 k
  have ih0 := nat_Add.mono_l k
  unfold nat_Add.f
  repeat' first
   | with_reducible first
    | exact ih0 _ _ _ _ _ _
    | exact nat_Trim.mono _ _
    | exact nat_used.mono _ _
    | exact LeO.refl _
    | exact LeO.none _
    | refine LeO.ite ?_ ?_
    | refine LeO.bind ?_ (fun _ => ?_)
   | exact LeO.none _ | refine LeO.ite ?_ ?_ | refine LeO.bind ?_ (fun _ => ?_)
def nat_Bits.f (k : Nat) (l0 : List Int) : Option (Int) := (nat_used.f k l0).bind fun t446 => (if t446 = 0 then (some 0) else (if 0 ≤ (wrap64 (t446 - 1)) then (if (wrap64 (t446 - 1)) < (l0.length : Int) then ((bits_Len32.f (rd l0 (wrap64 (t446 - 1)))).bind fun t448 => (some (wrap64 ((wrap64 (32 * (wrap64 (t446 - 1)))) + t448)))) else (none)) else (none)))
theorem nat_Bits.mono : ∀ a0 k, LeO (nat_Bits.f k a0) (nat_Bits.f (k + 1) a0) := by
  intro a0 k
  unfold nat_Bits.f
  repeat' first
   | with_reducible first
    | exact nat_used.mono _ _
    | exact LeO.refl _
    | exact LeO.none _
    | refine LeO.ite ?_ ?_
    | refine LeO.bind ?_ (fun _ => ?_)
   | exact LeO.none _ | refine LeO.ite ?_ ?_ | refine LeO.bind ?_ (fun _ => ?_)
end Go.Proofs.YtjgmmaeafodpmaaDoor.P
set_option linter.unusedVariables false
set_option linter.unusedSimpArgs false
namespace Go.Proofs.YtjgmmaeafodpmaaDoor.P
open Go.RowKit Go.Proofs.YtjgmmaeafodpmaaDoorW.PrintWords Go.Proofs.YtjgmmaeafodpmaaDoorW.PrintLast Go.Proofs.YtjgmmaeafodpmaaDoorW.PrintMore
mutual
def mul_Of.l0 : Nat → List Int → List Int → List Int → Int → Int → Option (List Int)
  | 0, _, _, _, _, _ => none
  | k + 1, x1, x5, x21, x22, x23 => if x23 < x22 then (if 0 ≤ x23 then (if x23 < (x21.length : Int) then (if 0 ≤ (wrap64 ((x1.length : Int) + 1)) then (if (wrap64 ((x1.length : Int) + 1) : Int).toNat ≤ 70368744177664 then ((some (List.replicate (wrap64 ((x1.length : Int) + 1) : Int).toNat 0 : List Int)).bind fun y248 => (if x23 ≤ (x5.length : Int) then (mul_Of.l1 k x1 x5 x23 (rd x21 x23) (cpy y248 0 (x5.drop (x23 : Int).toNat)) 0 x21 x22 x23 (y248.length : Int) 0) else (none))) else (none)) else (none)) else (none)) else (none)) else ((nat_Trim.f k x5).bind fun t244 => (some t244))
def mul_Of.l1 : Nat → List Int → List Int → Int → Int → List Int → Int → List Int → Int → Int → Int → Int → Option (List Int)
  | 0, _, _, _, _, _, _, _, _, _, _, _ => none
  | k + 1, x1, x5, x6, x7, x8, x9, x21, x22, x23, x38, x39 => if x39 < x38 then (if x39 < (x1.length : Int) then (if 0 ≤ x39 then (if x39 < (x8.length : Int) then (mul_Of.l1 k x1 x5 x6 x7 (x8.set (x39 : Int).toNat ((IntKind.u64.wrap ((IntKind.u64.wrap (x9 + (IntKind.u64.wrap ((IntKind.u64.wrap (x7)) * (IntKind.u64.wrap (rd x1 x39)))))) + (IntKind.u64.wrap (rd x8 x39)))) % 4294967296)) ((IntKind.u64.wrap ((IntKind.u64.wrap (x9 + (IntKind.u64.wrap ((IntKind.u64.wrap (x7)) * (IntKind.u64.wrap (rd x1 x39)))))) + (IntKind.u64.wrap (rd x8 x39)))) / 4294967296) x21 x22 x23 x38 (wrap64 (x39 + 1))) else (none)) else (none)) else (if 0 ≤ x39 then (if x39 < (x8.length : Int) then (mul_Of.l1 k x1 x5 x6 x7 (x8.set (x39 : Int).toNat ((IntKind.u64.wrap (x9 + (IntKind.u64.wrap (rd x8 x39)))) % 4294967296)) ((IntKind.u64.wrap (x9 + (IntKind.u64.wrap (rd x8 x39)))) / 4294967296) x21 x22 x23 x38 (wrap64 (x39 + 1))) else (none)) else (none))) else (if 0 ≤ x6 then (if x6 ≤ (x5.length : Int) then (mul_Of.l0 k x1 (cpy x5 (x6 : Int).toNat x8) x21 x22 (wrap64 (x23 + 1))) else (none)) else (none))
end
def mul_Of.f (k : Nat) (l0 : List Int) (l1 : List Int) : Option (List Int) := (nat_Trim.f k l0).bind fun t235 => ((nat_Trim.f k l1).bind fun t238 => (if 0 ≤ (wrap64 ((t235.length : Int) + (t238.length : Int))) then (if (wrap64 ((t235.length : Int) + (t238.length : Int)) : Int).toNat ≤ 70368744177664 then (mul_Of.l0 k t238 (List.replicate (wrap64 ((t235.length : Int) + (t238.length : Int)) : Int).toNat 0) t235 (t235.length : Int) 0) else (none)) else (none)))
theorem mul_Of.mono_l : ∀ k, (∀ y0 y1 y2 y3 y4, LeO (mul_Of.l0 k y0 y1 y2 y3 y4) (mul_Of.l0 (k + 1) y0 y1 y2 y3 y4)) ∧ (∀ y0 y1 y2 y3 y4 y5 y6 y7 y8 y9 y10, LeO (mul_Of.l1 k y0 y1 y2 y3 y4 y5 y6 y7 y8 y9 y10) (mul_Of.l1 (k + 1) y0 y1 y2 y3 y4 y5 y6 y7 y8 y9 y10))
  | 0 => ⟨fun _ _ _ _ _ r h => by simp [mul_Of.l0] at h, fun _ _ _ _ _ _ _ _ _ _ _ r h => by simp [mul_Of.l1] at h⟩
  | k + 1 => by
    obtain ⟨ih0, ih1⟩ := mul_Of.mono_l k
    refine ⟨?_, ?_⟩
    · intro y0 y1 y2 y3 y4
      unfold mul_Of.l0
      repeat' first
       | with_reducible first
        | exact ih0 _ _ _ _ _
        | exact ih1 _ _ _ _ _ _ _ _ _ _ _
        | exact nat_Trim.mono _ _
        | exact LeO.refl _
        | exact LeO.none _
        | refine LeO.ite ?_ ?_
        | refine LeO.bind ?_ (fun _ => ?_)
       | exact LeO.none _ | refine LeO.ite ?_ ?_ | refine LeO.bind ?_ (fun _ => ?_)
    · intro y0 y1 y2 y3 y4 y5 y6 y7 y8 y9 y10
      unfold mul_Of.l1
      repeat' first
       | with_reducible first
        | exact ih0 _ _ _ _ _
        | exact ih1 _ _ _ _ _ _ _ _ _ _ _
        | exact nat_Trim.mono _ _
        | exact LeO.refl _
        | exact LeO.none _
        | refine LeO.ite ?_ ?_
        | refine LeO.bind ?_ (fun _ => ?_)
       | exact LeO.none _ | refine LeO.ite ?_ ?_ | refine LeO.bind ?_ (fun _ => ?_)
theorem mul_Of.mono : ∀ a0 a1 k, LeO (mul_Of.f k a0 a1) (mul_Of.f (k + 1) a0 a1) := by
  intro a0 a1 k
  obtain ⟨ih0, ih1⟩ := mul_Of.mono_l k
  unfold mul_Of.f
  repeat' first
   | with_reducible first
    | exact ih0 _ _ _ _ _
    | exact ih1 _ _ _ _ _ _ _ _ _ _ _
    | exact nat_Trim.mono _ _
    | exact LeO.refl _
    | exact LeO.none _
    | refine LeO.ite ?_ ?_
    | refine LeO.bind ?_ (fun _ => ?_)
   | exact LeO.none _ | refine LeO.ite ?_ ?_ | refine LeO.bind ?_ (fun _ => ?_)
def mul_Small.f (k : Nat) (l0 : List Int) (a1 : Int) : Option (List Int) := (mul_Of.f k l0 (([a1] : List Int))).bind fun t269 => (some t269)
theorem mul_Small.mono : ∀ a0 a1 k, LeO (mul_Small.f k a0 a1) (mul_Small.f (k + 1) a0 a1) := by
  intro a0 a1 k
  unfold mul_Small.f
  repeat' first
   | with_reducible first
    | exact mul_Of.mono _ _ _
    | exact LeO.refl _
    | exact LeO.none _
    | refine LeO.ite ?_ ?_
    | refine LeO.bind ?_ (fun _ => ?_)
   | exact LeO.none _ | refine LeO.ite ?_ ?_ | refine LeO.bind ?_ (fun _ => ?_)
def mul_up.f (k : Nat) (l0 : List Int) (a1 : Int) : Option (List Int) := if 0 ≤ (wrap64 ((wrap64 ((wrap64 (Int.tdiv a1 32)) + (l0.length : Int))) + 1)) then (if (wrap64 ((wrap64 ((wrap64 (Int.tdiv a1 32)) + (l0.length : Int))) + 1) : Int).toNat ≤ 70368744177664 then ((some (List.replicate (wrap64 ((wrap64 ((wrap64 (Int.tdiv a1 32)) + (l0.length : Int))) + 1) : Int).toNat 0 : List Int)).bind fun y272 => (if 0 ≤ (wrap64 (Int.tdiv a1 32)) then (if (wrap64 (Int.tdiv a1 32)) ≤ (y272.length : Int) then (if 0 ≤ (Int.tmod a1 32) then ((mul_Small.f k (cpy y272 ((wrap64 (Int.tdiv a1 32)) : Int).toNat l0) (shl .u32 1 (Int.tmod a1 32))).bind fun t280 => (some t280)) else (none)) else (none)) else (none))) else (none)) else (none)
theorem mul_up.mono : ∀ a0 a1 k, LeO (mul_up.f k a0 a1) (mul_up.f (k + 1) a0 a1) := by
  intro a0 a1 k
  unfold mul_up.f
  repeat' first
   | with_reducible first
    | exact mul_Small.mono _ _ _
    | exact LeO.refl _
    | exact LeO.none _
    | refine LeO.ite ?_ ?_
    | refine LeO.bind ?_ (fun _ => ?_)
   | exact LeO.none _ | refine LeO.ite ?_ ?_ | refine LeO.bind ?_ (fun _ => ?_)
def mul_down.l0 : Nat → Int → List Int → Int → Int → Option (List Int)
  | 0, _, _, _, _ => none
  | k + 1, x1, x5, x20, x21 => if x21 < x20 then (if (wrap64 (x21 + 1)) < (x5.length : Int) then (if 0 ≤ (wrap64 (x21 + 1)) then (if 0 ≤ x21 then (if x21 < (x5.length : Int) then (if 0 ≤ (Int.tmod x1 32) then (mul_down.l0 k x1 (x5.set (x21 : Int).toNat ((shr .u64 (Go.bits .or .u64 (IntKind.u64.wrap ((IntKind.u64.wrap (rd x5 (wrap64 (x21 + 1)))) * 4294967296)) (IntKind.u64.wrap (rd x5 x21))) (Int.tmod x1 32)) % 4294967296)) x20 (wrap64 (x21 + 1))) else (none)) else (none)) else (none)) else (none)) else (if 0 ≤ x21 then (if x21 < (x5.length : Int) then (if 0 ≤ (Int.tmod x1 32) then (mul_down.l0 k x1 (x5.set (x21 : Int).toNat ((shr .u64 (Go.bits .or .u64 0 (IntKind.u64.wrap (rd x5 x21))) (Int.tmod x1 32)) % 4294967296)) x20 (wrap64 (x21 + 1))) else (none)) else (none)) else (none))) else ((nat_Trim.f k x5).bind fun t295 => (some t295))
def mul_down.f (k : Nat) (l0 : List Int) (a1 : Int) : Option (List Int) := if (wrap64 (Int.tdiv a1 32)) ≥ (l0.length : Int) then (some (([] : List Int))) else (if 0 ≤ (wrap64 (Int.tdiv a1 32)) then (if (wrap64 (Int.tdiv a1 32)) ≤ (l0.length : Int) then ((nat_Trim.f k (l0.drop ((wrap64 (Int.tdiv a1 32)) : Int).toNat)).bind fun t287 => (mul_down.l0 k a1 t287 (t287.length : Int) 0)) else (none)) else (none))
theorem mul_down.mono_l : ∀ k, (∀ y0 y1 y2 y3, LeO (mul_down.l0 k y0 y1 y2 y3) (mul_down.l0 (k + 1) y0 y1 y2 y3))
  | 0 => fun _ _ _ _ r h => by simp [mul_down.l0] at h
  | k + 1 => by
    have ih0 := mul_down.mono_l k
    · intro y0 y1 y2 y3
      unfold mul_down.l0
      repeat' first
       | with_reducible first
        | exact ih0 _ _ _ _
        | exact nat_Trim.mono _ _
        | exact LeO.refl _
        | exact LeO.none _
        | refine LeO.ite ?_ ?_
        | refine LeO.bind ?_ (fun _ => ?_)
       | exact LeO.none _ | refine LeO.ite ?_ ?_ | refine LeO.bind ?_ (fun _ => ?_)
theorem mul_down.mono : ∀ a0 a1 k, LeO (mul_down.f k a0 a1) (mul_down.f (k + 1) a0 a1) := by
  intro a0 a1 k
  have ih0 := mul_down.mono_l k
  unfold mul_down.f
  repeat' first
   | with_reducible first
    | exact ih0 _ _ _ _
    | exact nat_Trim.mono _ _
    | exact LeO.refl _
    | exact LeO.none _
    | refine LeO.ite ?_ ?_
    | refine LeO.bind ?_ (fun _ => ?_)
   | exact LeO.none _ | refine LeO.ite ?_ ?_ | refine LeO.bind ?_ (fun _ => ?_)
def mul_Shift.f (k : Nat) (l0 : List Int) (a1 : Int) : Option (List Int) := if a1 ≥ 0 then ((mul_up.f k l0 (mn a1 8192)).bind fun t298 => (some t298)) else (if a1 < (-8192) then (some (([] : List Int))) else ((mul_down.f k l0 (wrap64 (-a1))).bind fun t304 => (some t304)))
theorem mul_Shift.mono : ∀ a0 a1 k, LeO (mul_Shift.f k a0 a1) (mul_Shift.f (k + 1) a0 a1) := by
  intro a0 a1 k
  unfold mul_Shift.f
  repeat' first
   | with_reducible first
    | exact mul_down.mono _ _ _
    | exact mul_up.mono _ _ _
    | exact LeO.refl _
    | exact LeO.none _
    | refine LeO.ite ?_ ?_
    | refine LeO.bind ?_ (fun _ => ?_)
   | exact LeO.none _ | refine LeO.ite ?_ ?_ | refine LeO.bind ?_ (fun _ => ?_)
end Go.Proofs.YtjgmmaeafodpmaaDoor.P
set_option linter.unusedVariables false
set_option linter.unusedSimpArgs false
namespace Go.Proofs.YtjgmmaeafodpmaaDoor.P
open Go.RowKit Go.Proofs.YtjgmmaeafodpmaaDoorW.PrintWords Go.Proofs.YtjgmmaeafodpmaaDoorW.PrintLast Go.Proofs.YtjgmmaeafodpmaaDoorW.PrintMore
def quo_less.l0 : Nat → List Int → List Int → Int → Option (List Int × Int)
  | 0, _, _, _ => none
  | k + 1, x0, x1, x2 => (mul_Small.f k x1 x2).bind fun t320 => ((nat_Sub.f k x0 t320).bind fun bt323 => (if bt323.2 = true then (some (bt323.1, x2)) else (quo_less.l0 k x0 x1 ((x2 - 1) % 4294967296))))
def quo_less.f (k : Nat) (l0 : List Int) (l1 : List Int) (a2 : Int) : Option (List Int × Int) := quo_less.l0 k l0 l1 a2
theorem quo_less.mono_l : ∀ k, (∀ y0 y1 y2, LeO (quo_less.l0 k y0 y1 y2) (quo_less.l0 (k + 1) y0 y1 y2))
  | 0 => fun _ _ _ r h => by simp [quo_less.l0] at h
  | k + 1 => by
    have ih0 := quo_less.mono_l k
    · intro y0 y1 y2
      unfold quo_less.l0
      repeat' first
       | with_reducible first
        | exact ih0 _ _ _
        | exact mul_Small.mono _ _ _
        | exact nat_Sub.mono _ _ _
        | exact LeO.refl _
        | exact LeO.none _
        | refine LeO.ite ?_ ?_
        | refine LeO.bind ?_ (fun _ => ?_)
       | exact LeO.none _ | refine LeO.ite ?_ ?_ | refine LeO.bind ?_ (fun _ => ?_)
theorem quo_less.mono : ∀ a0 a1 a2 k, LeO (quo_less.f k a0 a1 a2) (quo_less.f (k + 1) a0 a1 a2) := by
  intro a0 a1 a2 k
  have ih0 := quo_less.mono_l k
  unfold quo_less.f
  repeat' first
   | with_reducible first
    | exact ih0 _ _ _
    | exact mul_Small.mono _ _ _
    | exact nat_Sub.mono _ _ _
    | exact LeO.refl _
    | exact LeO.none _
    | refine LeO.ite ?_ ?_
    | refine LeO.bind ?_ (fun _ => ?_)
   | exact LeO.none _ | refine LeO.ite ?_ ?_ | refine LeO.bind ?_ (fun _ => ?_)
def quo_guess.f (l0 : List Int) (l1 : List Int) : Option (Int) := if 0 ≤ (l1.length : Int) then (if (l1.length : Int) < (l0.length : Int) then (if 0 ≤ (wrap64 ((l1.length : Int) - 1)) then (if (wrap64 ((l1.length : Int) - 1)) < (l0.length : Int) then (if (wrap64 ((l1.length : Int) - 1)) < (l1.length : Int) then (if (IntKind.u64.wrap (rd l1 (wrap64 ((l1.length : Int) - 1)))) = 0 then (none) else (some ((mn (IntKind.u64.wrap (Int.tdiv (Go.bits .or .u64 (IntKind.u64.wrap ((IntKind.u64.wrap (rd l0 (l1.length : Int))) * 4294967296)) (IntKind.u64.wrap (rd l0 (wrap64 ((l1.length : Int) - 1))))) (IntKind.u64.wrap (rd l1 (wrap64 ((l1.length : Int) - 1)))))) 4294967295) % 4294967296))) else (none)) else (none)) else (none)) else (none)) else (none)
def quo_Rem.l0 : Nat → List Int → List Int → List Int → Int → List Int → Int → Option (List Int × List Int × Bool)
  | 0, _, _, _, _, _, _ => none
  | k + 1, x0, x1, x4, x7, x8, x9 => if x9 ≥ 0 then (if 0 ≤ (wrap64 ((x1.length : Int) + 1)) then (if (wrap64 ((x1.length : Int) + 1) : Int).toNat ≤ 70368744177664 then ((some (List.replicate (wrap64 ((x1.length : Int) + 1) : Int).toNat 0 : List Int)).bind fun y347 => (if 1 ≤ (y347.length : Int) then (if 0 ≤ x9 then (if x9 < (x0.length : Int) then (if 0 < (y347.length : Int) then ((some ((cpy y347 1 x8).set (0 : Int).toNat (rd x0 x9) : List Int)).bind fun y356 => ((quo_guess.f y356 x1).bind fun t357 => ((quo_less.f k y356 x1 t357).bind fun bt358 => (if x9 < (x4.length : Int) then (quo_Rem.l0 k x0 x1 (x4.set (x9 : Int).toNat bt358.2) x7 bt358.1 (wrap64 (x9 - 1))) else (none))))) else (none)) else (none)) else (none)) else (none))) else (none)) else (none)) else ((nat_Trim.f k x4).bind fun t363 => ((mul_Shift.f k x8 (wrap64 (-x7))).bind fun t366 => (some (t363, t366, true))))
def quo_Rem.f (k : Nat) (l0 : List Int) (l1 : List Int) : Option (List Int × List Int × Bool) := (nat_Trim.f k l1).bind fun t330 => (if (t330.length : Int) = 0 then (some (([] : List Int), ([] : List Int), false)) else (if 0 ≤ (wrap64 ((t330.length : Int) - 1)) then (if (wrap64 ((t330.length : Int) - 1)) < (t330.length : Int) then ((bits_LeadingZeros32.f (rd t330 (wrap64 ((t330.length : Int) - 1)))).bind fun t334 => ((mul_Shift.f k l0 t334).bind fun t335 => ((mul_Shift.f k t330 t334).bind fun t338 => (if 0 ≤ (t335.length : Int) then (if ((t335.length : Int) : Int).toNat ≤ 70368744177664 then (quo_Rem.l0 k t335 t338 (List.replicate ((t335.length : Int) : Int).toNat 0) t334 (([] : List Int)) (wrap64 ((t335.length : Int) - 1))) else (none)) else (none))))) else (none)) else (none)))
theorem quo_Rem.mono_l : ∀ k, (∀ y0 y1 y2 y3 y4 y5, LeO (quo_Rem.l0 k y0 y1 y2 y3 y4 y5) (quo_Rem.l0 (k + 1) y0 y1 y2 y3 y4 y5))
  | 0 => fun _ _ _ _ _ _ r h => by simp [quo_Rem.l0] at h
  | k + 1 => by
    have ih0 := quo_Rem.mono_l k
    · intro y0 y1 y2 y3 y4 y5
      unfold quo_Rem.l0
      repeat' first
       | with_reducible first
        | exact ih0 _ _ _ _ _ _
        | exact mul_Shift.mono _ _ _
        | exact nat_Trim.mono _ _
        | exact quo_less.mono _ _ _ _
        | exact LeO.refl _
        | exact LeO.none _
        | refine LeO.ite ?_ ?_
        | refine LeO.bind ?_ (fun _ => ?_)
       | exact LeO.none _ | refine LeO.ite ?_ ?_ | refine LeO.bind ?_ (fun _ => ?_)
theorem quo_Rem.mono : ∀ a0 a1 k, LeO (quo_Rem.f k a0 a1) (quo_Rem.f (k + 1) a0 a1) := by
  intro a0 a1 k
  have ih0 := quo_Rem.mono_l k
  unfold quo_Rem.f
  repeat' first
   | with_reducible first
    | exact ih0 _ _ _ _ _ _
    | exact mul_Shift.mono _ _ _
    | exact nat_Trim.mono _ _
    | exact quo_less.mono _ _ _ _
    | exact LeO.refl _
    | exact LeO.none _
    | refine LeO.ite ?_ ?_
    | refine LeO.bind ?_ (fun _ => ?_)
   | exact LeO.none _ | refine LeO.ite ?_ ?_ | refine LeO.bind ?_ (fun _ => ?_)
def quo_Gcd.l0 : Nat → List Int → List Int → Option (List Int)
  | 0, _, _ => none
  | k + 1, x0, x1 => if (x1.length : Int) > 0 then ((quo_Rem.f k x0 x1).bind fun bt375 => (quo_Gcd.l0 k x1 bt375.2.1)) else (some x0)
def quo_Gcd.f (k : Nat) (l0 : List Int) (l1 : List Int) : Option (List Int) := (nat_Trim.f k l0).bind fun t369 => ((nat_Trim.f k l1).bind fun t372 => (quo_Gcd.l0 k t369 t372))
theorem quo_Gcd.mono_l : ∀ k, (∀ y0 y1, LeO (quo_Gcd.l0 k y0 y1) (quo_Gcd.l0 (k + 1) y0 y1))
  | 0 => fun _ _ r h => by simp [quo_Gcd.l0] at h
  | k + 1 => by
    have ih0 := quo_Gcd.mono_l k
    · intro y0 y1
      unfold quo_Gcd.l0
      repeat' first
       | with_reducible first
        | exact ih0 _ _
        | exact nat_Trim.mono _ _
        | exact quo_Rem.mono _ _ _
        | exact LeO.refl _
        | exact LeO.none _
        | refine LeO.ite ?_ ?_
        | refine LeO.bind ?_ (fun _ => ?_)
       | exact LeO.none _ | refine LeO.ite ?_ ?_ | refine LeO.bind ?_ (fun _ => ?_)
theorem quo_Gcd.mono : ∀ a0 a1 k, LeO (quo_Gcd.f k a0 a1) (quo_Gcd.f (k + 1) a0 a1) := by
  intro a0 a1 k
  have ih0 := quo_Gcd.mono_l k
  unfold quo_Gcd.f
  repeat' first
   | with_reducible first
    | exact ih0 _ _
    | exact nat_Trim.mono _ _
    | exact quo_Rem.mono _ _ _
    | exact LeO.refl _
    | exact LeO.none _
    | refine LeO.ite ?_ ?_
    | refine LeO.bind ?_ (fun _ => ?_)
   | exact LeO.none _ | refine LeO.ite ?_ ?_ | refine LeO.bind ?_ (fun _ => ?_)
def quo_Small.l0 : Nat → Int → Int → List Int → Int → Option (List Int × Int × Bool)
  | 0, _, _, _, _ => none
  | k + 1, x1, x5, x7, x8 => if x8 ≥ 0 then (if 0 ≤ x8 then (if x8 < (x7.length : Int) then ((bits_Div32.f x5 (rd x7 x8) x1).bind fun bt843 => (quo_Small.l0 k x1 bt843.2 (x7.set (x8 : Int).toNat bt843.1) (wrap64 (x8 - 1)))) else (none)) else (none)) else ((nat_Trim.f k x7).bind fun t846 => (some (t846, x5, true)))
def quo_Small.f (k : Nat) (l0 : List Int) (a1 : Int) : Option (List Int × Int × Bool) := if a1 = 0 then (some (([] : List Int), 0, false)) else ((nat_Trim.f k l0).bind fun t839 => (quo_Small.l0 k a1 0 t839 (wrap64 ((t839.length : Int) - 1))))
theorem quo_Small.mono_l : ∀ k, (∀ y0 y1 y2 y3, LeO (quo_Small.l0 k y0 y1 y2 y3) (quo_Small.l0 (k + 1) y0 y1 y2 y3))
  | 0 => fun _ _ _ _ r h => by simp [quo_Small.l0] at h
  | k + 1 => by
    have ih0 := quo_Small.mono_l k
    · intro y0 y1 y2 y3
      unfold quo_Small.l0
      repeat' first
       | with_reducible first
        | exact ih0 _ _ _ _
        | exact nat_Trim.mono _ _
        | exact LeO.refl _
        | exact LeO.none _
        | refine LeO.ite ?_ ?_
        | refine LeO.bind ?_ (fun _ => ?_)
       | exact LeO.none _ | refine LeO.ite ?_ ?_ | refine LeO.bind ?_ (fun _ => ?_)
theorem quo_Small.mono : ∀ a0 a1 k, LeO (quo_Small.f k a0 a1) (quo_Small.f (k + 1) a0 a1) := by
  intro a0 a1 k
  have ih0 := quo_Small.mono_l k
  unfold quo_Small.f
  repeat' first
   | with_reducible first
    | exact ih0 _ _ _ _
    | exact nat_Trim.mono _ _
    | exact LeO.refl _
    | exact LeO.none _
    | refine LeO.ite ?_ ?_
    | refine LeO.bind ?_ (fun _ => ?_)
   | exact LeO.none _ | refine LeO.ite ?_ ?_ | refine LeO.bind ?_ (fun _ => ?_)
end Go.Proofs.YtjgmmaeafodpmaaDoor.P
set_option linter.unusedVariables false
set_option linter.unusedSimpArgs false
namespace Go.Proofs.YtjgmmaeafodpmaaDoor.P
open Go.RowKit Go.Proofs.YtjgmmaeafodpmaaDoorW.PrintWords Go.Proofs.YtjgmmaeafodpmaaDoorW.PrintLast Go.Proofs.YtjgmmaeafodpmaaDoorW.PrintMore
def whole_made.f (k : Nat) (a0 : Bool) (l1 : List Int) : Option (Bool × List Int) := if 0 ≤ (l1.length : Int) then (if ((l1.length : Int) : Int).toNat ≤ 70368744177664 then ((nat_Trim.f k (cpy (List.replicate ((l1.length : Int) : Int).toNat 0) 0 l1)).bind fun t397 => (if a0 = true then (some (decide ((t397.length : Int) > 0), t397)) else (some (false, t397)))) else (none)) else (none)
theorem whole_made.mono : ∀ a0 a1 k, LeO (whole_made.f k a0 a1) (whole_made.f (k + 1) a0 a1) := by
  intro a0 a1 k
  unfold whole_made.f
  repeat' first
   | with_reducible first
    | exact nat_Trim.mono _ _
    | exact LeO.refl _
    | exact LeO.none _
    | refine LeO.ite ?_ ?_
    | refine LeO.bind ?_ (fun _ => ?_)
   | exact LeO.none _ | refine LeO.ite ?_ ?_ | refine LeO.bind ?_ (fun _ => ?_)
def whole_Trim.f (k : Nat) (a0_0 : Bool) (l0_1 : List Int) : Option (Bool × List Int) := (whole_made.f k a0_0 l0_1).bind fun bt402 => (some (bt402.1, bt402.2))
theorem whole_Trim.mono : ∀ a0 a1 k, LeO (whole_Trim.f k a0 a1) (whole_Trim.f (k + 1) a0 a1) := by
  intro a0 a1 k
  unfold whole_Trim.f
  repeat' first
   | with_reducible first
    | exact whole_made.mono _ _ _
    | exact LeO.refl _
    | exact LeO.none _
    | refine LeO.ite ?_ ?_
    | refine LeO.bind ?_ (fun _ => ?_)
   | exact LeO.none _ | refine LeO.ite ?_ ?_ | refine LeO.bind ?_ (fun _ => ?_)
mutual
def whole_Cmp.j0 : Nat → Bool → Bool → List Int → Bool → List Int → Option (Int)
  | 0, _, _, _, _, _ => none
  | k + 1, x9, x407000, x407001, x408000, x408001 => if x9 = true then (some (-1)) else (if x408000 = true then (whole_Cmp.j1 k (!x407000) x407000 x407001 x408000 x408001) else (whole_Cmp.j1 k false x407000 x407001 x408000 x408001))
def whole_Cmp.j1 : Nat → Bool → Bool → List Int → Bool → List Int → Option (Int)
  | 0, _, _, _, _, _ => none
  | k + 1, x17, x407000, x407001, x408000, x408001 => if x17 = true then (some 1) else (if x407000 = true then ((nat_Cmp.f k x408001 x407001).bind fun t416 => (some t416)) else ((nat_Cmp.f k x407001 x408001).bind fun t417 => (some t417)))
end
def whole_Cmp.f (k : Nat) (a0_0 : Bool) (l0_1 : List Int) (a1_0 : Bool) (l1_1 : List Int) : Option (Int) := (whole_Trim.f k a0_0 l0_1).bind fun bt408 => ((whole_Trim.f k a1_0 l1_1).bind fun bt412 => (if bt408.1 = true then (whole_Cmp.j0 k (!bt412.1) bt408.1 bt408.2 bt412.1 bt412.2) else (whole_Cmp.j0 k false bt408.1 bt408.2 bt412.1 bt412.2)))
theorem whole_Cmp.mono_l : ∀ k, (∀ y0 y1 y2 y3 y4, LeO (whole_Cmp.j0 k y0 y1 y2 y3 y4) (whole_Cmp.j0 (k + 1) y0 y1 y2 y3 y4)) ∧ (∀ y0 y1 y2 y3 y4, LeO (whole_Cmp.j1 k y0 y1 y2 y3 y4) (whole_Cmp.j1 (k + 1) y0 y1 y2 y3 y4))
  | 0 => ⟨fun _ _ _ _ _ r h => by simp [whole_Cmp.j0] at h, fun _ _ _ _ _ r h => by simp [whole_Cmp.j1] at h⟩
  | k + 1 => by
    obtain ⟨ih0, ih1⟩ := whole_Cmp.mono_l k
    refine ⟨?_, ?_⟩
    · intro y0 y1 y2 y3 y4
      unfold whole_Cmp.j0
      repeat' first
       | with_reducible first
        | exact ih0 _ _ _ _ _
        | exact ih1 _ _ _ _ _
        | exact nat_Cmp.mono _ _ _
        | exact whole_Trim.mono _ _ _
        | exact LeO.refl _
        | exact LeO.none _
        | refine LeO.ite ?_ ?_
        | refine LeO.bind ?_ (fun _ => ?_)
       | exact LeO.none _ | refine LeO.ite ?_ ?_ | refine LeO.bind ?_ (fun _ => ?_)
    · intro y0 y1 y2 y3 y4
      unfold whole_Cmp.j1
      repeat' first
       | with_reducible first
        | exact ih0 _ _ _ _ _
        | exact ih1 _ _ _ _ _
        | exact nat_Cmp.mono _ _ _
        | exact whole_Trim.mono _ _ _
        | exact LeO.refl _
        | exact LeO.none _
        | refine LeO.ite ?_ ?_
        | refine LeO.bind ?_ (fun _ => ?_)
       | exact LeO.none _ | refine LeO.ite ?_ ?_ | refine LeO.bind ?_ (fun _ => ?_)
theorem whole_Cmp.mono : ∀ a0 a1 a2 a3 k, LeO (whole_Cmp.f k a0 a1 a2 a3) (whole_Cmp.f (k + 1) a0 a1 a2 a3) := by
  intro a0 a1 a2 a3 k
  obtain ⟨ih0, ih1⟩ := whole_Cmp.mono_l k
  unfold whole_Cmp.f
  repeat' first
   | with_reducible first
    | exact ih0 _ _ _ _ _
    | exact ih1 _ _ _ _ _
    | exact nat_Cmp.mono _ _ _
    | exact whole_Trim.mono _ _ _
    | exact LeO.refl _
    | exact LeO.none _
    | refine LeO.ite ?_ ?_
    | refine LeO.bind ?_ (fun _ => ?_)
   | exact LeO.none _ | refine LeO.ite ?_ ?_ | refine LeO.bind ?_ (fun _ => ?_)
def whole_Add.f (k : Nat) (a0_0 : Bool) (l0_1 : List Int) (a1_0 : Bool) (l1_1 : List Int) : Option (Bool × List Int) := (whole_Trim.f k a0_0 l0_1).bind fun bt751 => ((whole_Trim.f k a1_0 l1_1).bind fun bt755 => (if (bt751.1 == bt755.1) = true then ((nat_Add.f k bt751.2 bt755.2).bind fun t759 => ((whole_made.f k bt751.1 t759).bind fun bt762 => (some (bt762.1, bt762.2)))) else ((nat_Sub.f k bt751.2 bt755.2).bind fun bt766 => (if bt766.2 = true then ((whole_made.f k bt751.1 bt766.1).bind fun bt770 => (some (bt770.1, bt770.2))) else ((nat_Sub.f k bt755.2 bt751.2).bind fun bt774 => ((whole_made.f k bt755.1 bt774.1).bind fun bt778 => (some (bt778.1, bt778.2))))))))
theorem whole_Add.mono : ∀ a0 a1 a2 a3 k, LeO (whole_Add.f k a0 a1 a2 a3) (whole_Add.f (k + 1) a0 a1 a2 a3) := by
  intro a0 a1 a2 a3 k
  unfold whole_Add.f
  repeat' first
   | with_reducible first
    | exact nat_Add.mono _ _ _
    | exact nat_Sub.mono _ _ _
    | exact whole_Trim.mono _ _ _
    | exact whole_made.mono _ _ _
    | exact LeO.refl _
    | exact LeO.none _
    | refine LeO.ite ?_ ?_
    | refine LeO.bind ?_ (fun _ => ?_)
   | exact LeO.none _ | refine LeO.ite ?_ ?_ | refine LeO.bind ?_ (fun _ => ?_)
def whole_Of.f (k : Nat) (a0 : Int) : Option (Bool × List Int) := if a0 < 0 then ((nat_Of.f k (IntKind.u64.wrap (-(IntKind.u64.wrap (a0))))).bind fun t783 => ((whole_made.f k true t783).bind fun bt786 => (some (bt786.1, bt786.2)))) else ((nat_Of.f k (IntKind.u64.wrap (a0))).bind fun t790 => ((whole_made.f k false t790).bind fun bt793 => (some (bt793.1, bt793.2))))
theorem whole_Of.mono : ∀ a0 k, LeO (whole_Of.f k a0) (whole_Of.f (k + 1) a0) := by
  intro a0 k
  unfold whole_Of.f
  repeat' first
   | with_reducible first
    | exact nat_Of.mono _ _
    | exact whole_made.mono _ _ _
    | exact LeO.refl _
    | exact LeO.none _
    | refine LeO.ite ?_ ?_
    | refine LeO.bind ?_ (fun _ => ?_)
   | exact LeO.none _ | refine LeO.ite ?_ ?_ | refine LeO.bind ?_ (fun _ => ?_)
def whole_Mul.f (k : Nat) (a0_0 : Bool) (l0_1 : List Int) (a1_0 : Bool) (l1_1 : List Int) : Option (Bool × List Int) := (mul_Of.f k l0_1 l1_1).bind fun t1337 => ((whole_made.f k (a0_0 != a1_0) t1337).bind fun bt1340 => (some (bt1340.1, bt1340.2)))
theorem whole_Mul.mono : ∀ a0 a1 a2 a3 k, LeO (whole_Mul.f k a0 a1 a2 a3) (whole_Mul.f (k + 1) a0 a1 a2 a3) := by
  intro a0 a1 a2 a3 k
  unfold whole_Mul.f
  repeat' first
   | with_reducible first
    | exact mul_Of.mono _ _ _
    | exact whole_made.mono _ _ _
    | exact LeO.refl _
    | exact LeO.none _
    | refine LeO.ite ?_ ?_
    | refine LeO.bind ?_ (fun _ => ?_)
   | exact LeO.none _ | refine LeO.ite ?_ ?_ | refine LeO.bind ?_ (fun _ => ?_)
end Go.Proofs.YtjgmmaeafodpmaaDoor.P
set_option linter.unusedVariables false
set_option linter.unusedSimpArgs false
namespace Go.Proofs.YtjgmmaeafodpmaaDoor.P
open Go.RowKit Go.Proofs.YtjgmmaeafodpmaaDoorW.PrintWords Go.Proofs.YtjgmmaeafodpmaaDoorW.PrintLast Go.Proofs.YtjgmmaeafodpmaaDoorW.PrintMore
def rat_trimmed.f (l0 : List Int) : Option (Bool) := if (l0.length : Int) = 0 then (some true) else (if 0 ≤ (wrap64 ((l0.length : Int) - 1)) then (if (wrap64 ((l0.length : Int) - 1)) < (l0.length : Int) then (some ((rd l0 (wrap64 ((l0.length : Int) - 1))) != 0)) else (none)) else (none))
def rat_Good.j0 : Nat → List Int → List Int → Bool → Option (Bool)
  | 0, _, _, _ => none
  | k + 1, x3, x4, x42 => if x42 = true then (some false) else ((quo_Gcd.f k x3 x4).bind fun t385 => ((nat_Of.f k 1).bind fun t388 => ((nat_Cmp.f k t385 t388).bind fun t391 => (some (t391 == 0)))))
def rat_Good.f (k : Nat) (a0_0 : Bool) (l0_1 : List Int) (l0_2 : List Int) : Option (Bool) := (rat_trimmed.f l0_1).bind fun t383 => (if t383 = true then ((rat_trimmed.f l0_2).bind fun t384 => (if t384 = true then (if (l0_2.length : Int) = 0 then (rat_Good.j0 k l0_1 l0_2 true) else (if (l0_2.length : Int) > 64 then (rat_Good.j0 k l0_1 l0_2 true) else (if (l0_1.length : Int) > 64 then (rat_Good.j0 k l0_1 l0_2 true) else (if a0_0 = true then (rat_Good.j0 k l0_1 l0_2 ((l0_1.length : Int) == 0)) else (rat_Good.j0 k l0_1 l0_2 false))))) else (rat_Good.j0 k l0_1 l0_2 true))) else (rat_Good.j0 k l0_1 l0_2 true))
theorem rat_Good.mono_l : ∀ k, (∀ y0 y1 y2, LeO (rat_Good.j0 k y0 y1 y2) (rat_Good.j0 (k + 1) y0 y1 y2))
  | 0 => fun _ _ _ r h => by simp [rat_Good.j0] at h
  | k + 1 => by
    have ih0 := rat_Good.mono_l k
    · intro y0 y1 y2
      unfold rat_Good.j0
      repeat' first
       | with_reducible first
        | exact ih0 _ _ _
        | exact nat_Cmp.mono _ _ _
        | exact nat_Of.mono _ _
        | exact quo_Gcd.mono _ _ _
        | exact LeO.refl _
        | exact LeO.none _
        | refine LeO.ite ?_ ?_
        | refine LeO.bind ?_ (fun _ => ?_)
       | exact LeO.none _ | refine LeO.ite ?_ ?_ | refine LeO.bind ?_ (fun _ => ?_)
theorem rat_Good.mono : ∀ a0 a1 a2 k, LeO (rat_Good.f k a0 a1 a2) (rat_Good.f (k + 1) a0 a1 a2) := by
  intro a0 a1 a2 k
  have ih0 := rat_Good.mono_l k
  unfold rat_Good.f
  repeat' first
   | with_reducible first
    | exact ih0 _ _ _
    | exact nat_Cmp.mono _ _ _
    | exact nat_Of.mono _ _
    | exact quo_Gcd.mono _ _ _
    | exact LeO.refl _
    | exact LeO.none _
    | refine LeO.ite ?_ ?_
    | refine LeO.bind ?_ (fun _ => ?_)
   | exact LeO.none _ | refine LeO.ite ?_ ?_ | refine LeO.bind ?_ (fun _ => ?_)
def rat_Sign.f (k : Nat) (a0_0 : Bool) (l0_1 : List Int) (l0_2 : List Int) : Option (Int) := (rat_Good.f k a0_0 l0_1 l0_2).bind fun t419 => (if t419 = true then ((whole_Cmp.f k a0_0 l0_1 false ([] : List Int)).bind fun t420 => (some t420)) else (some 0))
theorem rat_Sign.mono : ∀ a0 a1 a2 k, LeO (rat_Sign.f k a0 a1 a2) (rat_Sign.f (k + 1) a0 a1 a2) := by
  intro a0 a1 a2 k
  unfold rat_Sign.f
  repeat' first
   | with_reducible first
    | exact rat_Good.mono _ _ _ _
    | exact whole_Cmp.mono _ _ _ _ _
    | exact LeO.refl _
    | exact LeO.none _
    | refine LeO.ite ?_ ?_
    | refine LeO.bind ?_ (fun _ => ?_)
   | exact LeO.none _ | refine LeO.ite ?_ ?_ | refine LeO.bind ?_ (fun _ => ?_)
def rat_Of.f (k : Nat) (a0_0 : Bool) (l0_1 : List Int) (l1 : List Int) : Option (Bool × List Int × List Int × Int) := (whole_Trim.f k a0_0 l0_1).bind fun bt480 => ((nat_Trim.f k l1).bind fun t484 => (if (t484.length : Int) = 0 then (some (false, ([] : List Int), ([] : List Int), 3)) else ((quo_Gcd.f k bt480.2 t484).bind fun t487 => ((quo_Rem.f k bt480.2 t487).bind fun bt490 => ((quo_Rem.f k t484 t487).bind fun bt497 => (if (bt490.1.length : Int) > 64 then (some (false, ([] : List Int), ([] : List Int), 2)) else (if (bt497.1.length : Int) > 64 then (some (false, ([] : List Int), ([] : List Int), 2)) else (some (bt480.1, bt490.1, bt497.1, 0)))))))))
theorem rat_Of.mono : ∀ a0 a1 a2 k, LeO (rat_Of.f k a0 a1 a2) (rat_Of.f (k + 1) a0 a1 a2) := by
  intro a0 a1 a2 k
  unfold rat_Of.f
  repeat' first
   | with_reducible first
    | exact nat_Trim.mono _ _
    | exact quo_Gcd.mono _ _ _
    | exact quo_Rem.mono _ _ _
    | exact whole_Trim.mono _ _ _
    | exact LeO.refl _
    | exact LeO.none _
    | refine LeO.ite ?_ ?_
    | refine LeO.bind ?_ (fun _ => ?_)
   | exact LeO.none _ | refine LeO.ite ?_ ?_ | refine LeO.bind ?_ (fun _ => ?_)
def rat_cross.f (k : Nat) (a0_0 : Bool) (l0_1 : List Int) (l0_2 : List Int) (a1_0 : Bool) (l1_1 : List Int) (l1_2 : List Int) : Option (Bool × List Int) := (whole_Mul.f k a0_0 l0_1 false l1_2).bind fun bt1347 => (some (bt1347.1, bt1347.2))
theorem rat_cross.mono : ∀ a0 a1 a2 a3 a4 a5 k, LeO (rat_cross.f k a0 a1 a2 a3 a4 a5) (rat_cross.f (k + 1) a0 a1 a2 a3 a4 a5) := by
  intro a0 a1 a2 a3 a4 a5 k
  unfold rat_cross.f
  repeat' first
   | with_reducible first
    | exact whole_Mul.mono _ _ _ _ _
    | exact LeO.refl _
    | exact LeO.none _
    | refine LeO.ite ?_ ?_
    | refine LeO.bind ?_ (fun _ => ?_)
   | exact LeO.none _ | refine LeO.ite ?_ ?_ | refine LeO.bind ?_ (fun _ => ?_)
def rat_Cmp.j0 : Nat → Bool → Bool → List Int → List Int → Bool → List Int → List Int → Option (Int)
  | 0, _, _, _, _, _, _, _ => none
  | k + 1, x12, x1352000, x1352001, x1352002, x1353000, x1353001, x1353002 => if x12 = true then (some 0) else ((rat_cross.f k x1352000 x1352001 x1352002 x1353000 x1353001 x1353002).bind fun bt1355 => ((rat_cross.f k x1353000 x1353001 x1353002 x1352000 x1352001 x1352002).bind fun bt1359 => ((whole_Cmp.f k bt1355.1 bt1355.2 bt1359.1 bt1359.2).bind fun t1363 => (some t1363))))
def rat_Cmp.f (k : Nat) (a0_0 : Bool) (l0_1 : List Int) (l0_2 : List Int) (a1_0 : Bool) (l1_1 : List Int) (l1_2 : List Int) : Option (Int) := (rat_Good.f k a0_0 l0_1 l0_2).bind fun t1353 => (if t1353 = true then ((rat_Good.f k a1_0 l1_1 l1_2).bind fun t1354 => (rat_Cmp.j0 k (!t1354) a0_0 l0_1 l0_2 a1_0 l1_1 l1_2)) else (rat_Cmp.j0 k true a0_0 l0_1 l0_2 a1_0 l1_1 l1_2))
theorem rat_Cmp.mono_l : ∀ k, (∀ y0 y1 y2 y3 y4 y5 y6, LeO (rat_Cmp.j0 k y0 y1 y2 y3 y4 y5 y6) (rat_Cmp.j0 (k + 1) y0 y1 y2 y3 y4 y5 y6))
  | 0 => fun _ _ _ _ _ _ _ r h => by simp [rat_Cmp.j0] at h
  | k + 1 => by
    have ih0 := rat_Cmp.mono_l k
    · intro y0 y1 y2 y3 y4 y5 y6
      unfold rat_Cmp.j0
      repeat' first
       | with_reducible first
        | exact ih0 _ _ _ _ _ _ _
        | exact rat_Good.mono _ _ _ _
        | exact rat_cross.mono _ _ _ _ _ _ _
        | exact whole_Cmp.mono _ _ _ _ _
        | exact LeO.refl _
        | exact LeO.none _
        | refine LeO.ite ?_ ?_
        | refine LeO.bind ?_ (fun _ => ?_)
       | exact LeO.none _ | refine LeO.ite ?_ ?_ | refine LeO.bind ?_ (fun _ => ?_)
theorem rat_Cmp.mono : ∀ a0 a1 a2 a3 a4 a5 k, LeO (rat_Cmp.f k a0 a1 a2 a3 a4 a5) (rat_Cmp.f (k + 1) a0 a1 a2 a3 a4 a5) := by
  intro a0 a1 a2 a3 a4 a5 k
  have ih0 := rat_Cmp.mono_l k
  unfold rat_Cmp.f
  repeat' first
   | with_reducible first
    | exact ih0 _ _ _ _ _ _ _
    | exact rat_Good.mono _ _ _ _
    | exact rat_cross.mono _ _ _ _ _ _ _
    | exact whole_Cmp.mono _ _ _ _ _
    | exact LeO.refl _
    | exact LeO.none _
    | refine LeO.ite ?_ ?_
    | refine LeO.bind ?_ (fun _ => ?_)
   | exact LeO.none _ | refine LeO.ite ?_ ?_ | refine LeO.bind ?_ (fun _ => ?_)
end Go.Proofs.YtjgmmaeafodpmaaDoor.P
set_option linter.unusedVariables false
set_option linter.unusedSimpArgs false
namespace Go.Proofs.YtjgmmaeafodpmaaDoor.P
open Go.RowKit Go.Proofs.YtjgmmaeafodpmaaDoorW.PrintWords Go.Proofs.YtjgmmaeafodpmaaDoorW.PrintLast Go.Proofs.YtjgmmaeafodpmaaDoorW.PrintMore
mutual
def digits_Ten.j0 : Nat → Int → Bool → Option (List Int × Bool)
  | 0, _, _ => none
  | k + 1, x0, x10 => if x10 = true then (some (([] : List Int), false)) else ((nat_Of.f k 1).bind fun t421 => (digits_Ten.l0 k x0 t421))
def digits_Ten.l0 : Nat → Int → List Int → Option (List Int × Bool)
  | 0, _, _ => none
  | k + 1, x0, x4 => if x0 > 0 then (if 0 ≤ (mn x0 9) then (if (mn x0 9) < (tab0_.length : Int) then ((mul_Small.f k x4 (rd tab0_ (mn x0 9))).bind fun t425 => (digits_Ten.l0 k (wrap64 (x0 - 9)) t425)) else (none)) else (none)) else (some (x4, true))
end
def digits_Ten.f (k : Nat) (a0 : Int) : Option (List Int × Bool) := if a0 < 0 then (digits_Ten.j0 k a0 true) else (digits_Ten.j0 k a0 (decide (a0 > 2000)))
theorem digits_Ten.mono_l : ∀ k, (∀ y0 y1, LeO (digits_Ten.j0 k y0 y1) (digits_Ten.j0 (k + 1) y0 y1)) ∧ (∀ y0 y1, LeO (digits_Ten.l0 k y0 y1) (digits_Ten.l0 (k + 1) y0 y1))
  | 0 => ⟨fun _ _ r h => by simp [digits_Ten.j0] at h, fun _ _ r h => by simp [digits_Ten.l0] at h⟩
  | k + 1 => by
    obtain ⟨ih0, ih1⟩ := digits_Ten.mono_l k
    refine ⟨?_, ?_⟩
    · intro y0 y1
      unfold digits_Ten.j0
      repeat' first
       | with_reducible first
        | exact ih0 _ _
        | exact ih1 _ _
        | exact mul_Small.mono _ _ _
        | exact nat_Of.mono _ _
        | exact LeO.refl _
        | exact LeO.none _
        | refine LeO.ite ?_ ?_
        | refine LeO.bind ?_ (fun _ => ?_)
       | exact LeO.none _ | refine LeO.ite ?_ ?_ | refine LeO.bind ?_ (fun _ => ?_)
    · intro y0 y1
      unfold digits_Ten.l0
      repeat' first
       | with_reducible first
        | exact ih0 _ _
        | exact ih1 _ _
        | exact mul_Small.mono _ _ _
        | exact nat_Of.mono _ _
        | exact LeO.refl _
        | exact LeO.none _
        | refine LeO.ite ?_ ?_
        | refine LeO.bind ?_ (fun _ => ?_)
       | exact LeO.none _ | refine LeO.ite ?_ ?_ | refine LeO.bind ?_ (fun _ => ?_)
theorem digits_Ten.mono : ∀ a0 k, LeO (digits_Ten.f k a0) (digits_Ten.f (k + 1) a0) := by
  intro a0 k
  obtain ⟨ih0, ih1⟩ := digits_Ten.mono_l k
  unfold digits_Ten.f
  repeat' first
   | with_reducible first
    | exact ih0 _ _
    | exact ih1 _ _
    | exact mul_Small.mono _ _ _
    | exact nat_Of.mono _ _
    | exact LeO.refl _
    | exact LeO.none _
    | refine LeO.ite ?_ ?_
    | refine LeO.bind ?_ (fun _ => ?_)
   | exact LeO.none _ | refine LeO.ite ?_ ?_ | refine LeO.bind ?_ (fun _ => ?_)
mutual
def digits_Text.l0 : Nat → List Int → List Int → Option (ByteArray)
  | 0, _, _ => none
  | k + 1, x0, x3 => if (x0.length : Int) > 0 then (if 9 < (tab0_.length : Int) then ((quo_Small.f k x0 (rd tab0_ 9)).bind fun bt857 => (digits_Text.l1 k x3 bt857.1 bt857.2.1 0)) else (none)) else (digits_Text.l2 k x3)
def digits_Text.l1 : Nat → List Int → List Int → Int → Int → Option (ByteArray)
  | 0, _, _, _, _ => none
  | k + 1, x3, x4, x5, x20 => if x20 < 9 then (if x3.length < 140737488355328 then (digits_Text.l1 k (x3 ++ [(48 + (Int.tmod x5 10)) % 256]) x4 ((Int.tdiv x5 10) % 4294967296) (wrap64 (x20 + 1))) else (none)) else (digits_Text.l0 k x4 x3)
def digits_Text.l2 : Nat → List Int → Option (ByteArray)
  | 0, _ => none
  | k + 1, x3 => if (x3.length : Int) > 0 then (if 0 ≤ (wrap64 ((x3.length : Int) - 1)) then (if (wrap64 ((x3.length : Int) - 1)) < (x3.length : Int) then (if (rd x3 (wrap64 ((x3.length : Int) - 1))) = 48 then (if (wrap64 ((x3.length : Int) - 1)) ≤ (x3.length : Int) then (digits_Text.l2 k (x3.take ((wrap64 ((x3.length : Int) - 1)) : Int).toNat)) else (none)) else (if (x3.length : Int) = 0 then (some (⟨#[48]⟩ : ByteArray)) else ((slices_Reverse_byte_byte.f k x3).bind fun t869 => (some (strOfNums t869))))) else (none)) else (none)) else (if (x3.length : Int) = 0 then (some (⟨#[48]⟩ : ByteArray)) else ((slices_Reverse_byte_byte.f k x3).bind fun t870 => (some (strOfNums t870))))
end
def digits_Text.f (k : Nat) (l0 : List Int) : Option (ByteArray) := (nat_Trim.f k l0).bind fun t853 => (digits_Text.l0 k t853 ([] : List Int))
theorem digits_Text.mono_l : ∀ k, (∀ y0 y1, LeO (digits_Text.l0 k y0 y1) (digits_Text.l0 (k + 1) y0 y1)) ∧ (∀ y0 y1 y2 y3, LeO (digits_Text.l1 k y0 y1 y2 y3) (digits_Text.l1 (k + 1) y0 y1 y2 y3)) ∧ (∀ y0, LeO (digits_Text.l2 k y0) (digits_Text.l2 (k + 1) y0))
  | 0 => ⟨fun _ _ r h => by simp [digits_Text.l0] at h, fun _ _ _ _ r h => by simp [digits_Text.l1] at h, fun _ r h => by simp [digits_Text.l2] at h⟩
  | k + 1 => by
    obtain ⟨ih0, ih1, ih2⟩ := digits_Text.mono_l k
    refine ⟨?_, ?_, ?_⟩
    · intro y0 y1
      unfold digits_Text.l0
      repeat' first
       | with_reducible first
        | exact ih0 _ _
        | exact ih1 _ _ _ _
        | exact ih2 _
        | exact nat_Trim.mono _ _
        | exact quo_Small.mono _ _ _
        | exact slices_Reverse_byte_byte.mono _ _
        | exact LeO.refl _
        | exact LeO.none _
        | refine LeO.ite ?_ ?_
        | refine LeO.bind ?_ (fun _ => ?_)
       | exact LeO.none _ | refine LeO.ite ?_ ?_ | refine LeO.bind ?_ (fun _ => ?_)
    · intro y0 y1 y2 y3
      unfold digits_Text.l1
      repeat' first
       | with_reducible first
        | exact ih0 _ _
        | exact ih1 _ _ _ _
        | exact ih2 _
        | exact nat_Trim.mono _ _
        | exact quo_Small.mono _ _ _
        | exact slices_Reverse_byte_byte.mono _ _
        | exact LeO.refl _
        | exact LeO.none _
        | refine LeO.ite ?_ ?_
        | refine LeO.bind ?_ (fun _ => ?_)
       | exact LeO.none _ | refine LeO.ite ?_ ?_ | refine LeO.bind ?_ (fun _ => ?_)
    · intro y0
      unfold digits_Text.l2
      repeat' first
       | with_reducible first
        | exact ih0 _ _
        | exact ih1 _ _ _ _
        | exact ih2 _
        | exact nat_Trim.mono _ _
        | exact quo_Small.mono _ _ _
        | exact slices_Reverse_byte_byte.mono _ _
        | exact LeO.refl _
        | exact LeO.none _
        | refine LeO.ite ?_ ?_
        | refine LeO.bind ?_ (fun _ => ?_)
       | exact LeO.none _ | refine LeO.ite ?_ ?_ | refine LeO.bind ?_ (fun _ => ?_)
theorem digits_Text.mono : ∀ a0 k, LeO (digits_Text.f k a0) (digits_Text.f (k + 1) a0) := by
  intro a0 k
  obtain ⟨ih0, ih1, ih2⟩ := digits_Text.mono_l k
  unfold digits_Text.f
  repeat' first
   | with_reducible first
    | exact ih0 _ _
    | exact ih1 _ _ _ _
    | exact ih2 _
    | exact nat_Trim.mono _ _
    | exact quo_Small.mono _ _ _
    | exact slices_Reverse_byte_byte.mono _ _
    | exact LeO.refl _
    | exact LeO.none _
    | refine LeO.ite ?_ ?_
    | refine LeO.bind ?_ (fun _ => ?_)
   | exact LeO.none _ | refine LeO.ite ?_ ?_ | refine LeO.bind ?_ (fun _ => ?_)
end Go.Proofs.YtjgmmaeafodpmaaDoor.P
set_option linter.unusedVariables false
set_option linter.unusedSimpArgs false
namespace Go.Proofs.YtjgmmaeafodpmaaDoor.P
open Go.RowKit Go.Proofs.YtjgmmaeafodpmaaDoorW.PrintWords Go.Proofs.YtjgmmaeafodpmaaDoorW.PrintLast Go.Proofs.YtjgmmaeafodpmaaDoorW.PrintMore
def decimal_split.j0 : Nat → Int → Bool → Bool → List Int → List Int → Option (Bool × List Int × Bool × List Int × Int × Int)
  | 0, _, _, _, _, _ => none
  | k + 1, x1, x23, x798000, x798001, x798002 => if x23 = true then (some (false, ([] : List Int), false, ([] : List Int), 0, 1)) else ((digits_Ten.f k x1).bind fun bt801 => ((mul_Of.f k x798001 bt801.1).bind fun t805 => ((quo_Rem.f k t805 x798002).bind fun bt808 => ((nat_Add.f k bt808.2.1 bt808.2.1).bind fun t815 => ((nat_Cmp.f k t815 x798002).bind fun t818 => ((whole_Trim.f k x798000 bt808.1).bind fun bt819 => (if (bt808.2.1.length : Int) = 0 then (some (bt819.1, bt819.2, bt819.1, bt819.2, t818, 0)) else (if x798000 = true then ((whole_Of.f k (-1)).bind fun bt823 => ((whole_Add.f k bt819.1 bt819.2 bt823.1 bt823.2).bind fun bt827 => (some (bt827.1, bt827.2, bt819.1, bt819.2, wrap64 (-t818), 0)))) else ((whole_Of.f k 1).bind fun bt831 => ((whole_Add.f k bt819.1 bt819.2 bt831.1 bt831.2).bind fun bt835 => (some (bt819.1, bt819.2, bt835.1, bt835.2, t818, 0))))))))))))
def decimal_split.f (k : Nat) (a0_0 : Bool) (l0_1 : List Int) (l0_2 : List Int) (a1 : Int) : Option (Bool × List Int × Bool × List Int × Int × Int) := (rat_Good.f k a0_0 l0_1 l0_2).bind fun t800 => (if t800 = true then (if a1 < 0 then (decimal_split.j0 k a1 true a0_0 l0_1 l0_2) else (decimal_split.j0 k a1 (decide (a1 > 60)) a0_0 l0_1 l0_2)) else (decimal_split.j0 k a1 true a0_0 l0_1 l0_2))
theorem decimal_split.mono_l : ∀ k, (∀ y0 y1 y2 y3 y4, LeO (decimal_split.j0 k y0 y1 y2 y3 y4) (decimal_split.j0 (k + 1) y0 y1 y2 y3 y4))
  | 0 => fun _ _ _ _ _ r h => by simp [decimal_split.j0] at h
  | k + 1 => by
    have ih0 := decimal_split.mono_l k
    · intro y0 y1 y2 y3 y4
      unfold decimal_split.j0
      repeat' first
       | with_reducible first
        | exact ih0 _ _ _ _ _
        | exact digits_Ten.mono _ _
        | exact mul_Of.mono _ _ _
        | exact nat_Add.mono _ _ _
        | exact nat_Cmp.mono _ _ _
        | exact quo_Rem.mono _ _ _
        | exact rat_Good.mono _ _ _ _
        | exact whole_Add.mono _ _ _ _ _
        | exact whole_Of.mono _ _
        | exact whole_Trim.mono _ _ _
        | exact LeO.refl _
        | exact LeO.none _
        | refine LeO.ite ?_ ?_
        | refine LeO.bind ?_ (fun _ => ?_)
       | exact LeO.none _ | refine LeO.ite ?_ ?_ | refine LeO.bind ?_ (fun _ => ?_)
theorem decimal_split.mono : ∀ a0 a1 a2 a3 k, LeO (decimal_split.f k a0 a1 a2 a3) (decimal_split.f (k + 1) a0 a1 a2 a3) := by
  intro a0 a1 a2 a3 k
  have ih0 := decimal_split.mono_l k
  unfold decimal_split.f
  repeat' first
   | with_reducible first
    | exact ih0 _ _ _ _ _
    | exact digits_Ten.mono _ _
    | exact mul_Of.mono _ _ _
    | exact nat_Add.mono _ _ _
    | exact nat_Cmp.mono _ _ _
    | exact quo_Rem.mono _ _ _
    | exact rat_Good.mono _ _ _ _
    | exact whole_Add.mono _ _ _ _ _
    | exact whole_Of.mono _ _
    | exact whole_Trim.mono _ _ _
    | exact LeO.refl _
    | exact LeO.none _
    | refine LeO.ite ?_ ?_
    | refine LeO.bind ?_ (fun _ => ?_)
   | exact LeO.none _ | refine LeO.ite ?_ ?_ | refine LeO.bind ?_ (fun _ => ?_)
def decimal_text.j0 : Nat → Int → ByteArray → Bool → List Int → Option (ByteArray)
  | 0, _, _, _, _ => none
  | k + 1, x1, x5, x875000, x875001 => if 0 ≤ (x5.size : Int) then (if ((x5.size : Int) : Int).toNat ≤ 281474976710656 then ((some (List.replicate ((x5.size : Int) : Int).toNat 0 : List Int)).bind fun y877 => ((some (cpy y877 0 (btes x5) : List Int)).bind fun y880 => (if 0 ≤ (wrap64 ((y877.length : Int) - x1)) then (if (wrap64 ((y877.length : Int) - x1)) ≤ (y877.length : Int) then ((some (y880.take ((wrap64 ((y877.length : Int) - x1)) : Int).toNat : List Int)).bind fun y881 => (if x1 > 0 then ((some (y880.drop ((wrap64 ((y877.length : Int) - x1)) : Int).toNat : List Int)).bind fun y885 => (if 1 + (strOfNums y885).size ≤ 9223372036854775807 then (if (strOfNums y881).size + ((⟨#[46]⟩ : ByteArray) ++ (strOfNums y885)).size ≤ 9223372036854775807 then (if x875000 = true then (if 1 + ((strOfNums y881) ++ ((⟨#[46]⟩ : ByteArray) ++ (strOfNums y885))).size ≤ 9223372036854775807 then (some ((⟨#[45]⟩ : ByteArray) ++ ((strOfNums y881) ++ ((⟨#[46]⟩ : ByteArray) ++ (strOfNums y885))))) else (none)) else (some ((strOfNums y881) ++ ((⟨#[46]⟩ : ByteArray) ++ (strOfNums y885))))) else (none)) else (none))) else (if x875000 = true then (if 1 + (strOfNums y881).size ≤ 9223372036854775807 then (some ((⟨#[45]⟩ : ByteArray) ++ (strOfNums y881))) else (none)) else (some (strOfNums y881))))) else (none)) else (none)))) else (none)) else (none)
def decimal_text.f (k : Nat) (a0_0 : Bool) (l0_1 : List Int) (a1 : Int) : Option (ByteArray) := (digits_Text.f k l0_1).bind fun t875 => (if (wrap64 ((wrap64 (a1 + 1)) - (t875.size : Int))) > 0 then ((strings_Repeat.f (⟨#[48]⟩ : ByteArray) (wrap64 ((wrap64 (a1 + 1)) - (t875.size : Int)))).bind fun t876 => (if t876.size + t875.size ≤ 9223372036854775807 then (decimal_text.j0 k a1 (t876 ++ t875) a0_0 l0_1) else (none))) else (decimal_text.j0 k a1 t875 a0_0 l0_1))
theorem decimal_text.mono_l : ∀ k, (∀ y0 y1 y2 y3, LeO (decimal_text.j0 k y0 y1 y2 y3) (decimal_text.j0 (k + 1) y0 y1 y2 y3))
  | 0 => fun _ _ _ _ r h => by simp [decimal_text.j0] at h
  | k + 1 => by
    have ih0 := decimal_text.mono_l k
    · intro y0 y1 y2 y3
      unfold decimal_text.j0
      repeat' first
       | with_reducible first
        | exact ih0 _ _ _ _
        | exact digits_Text.mono _ _
        | exact LeO.refl _
        | exact LeO.none _
        | refine LeO.ite ?_ ?_
        | refine LeO.bind ?_ (fun _ => ?_)
       | exact LeO.none _ | refine LeO.ite ?_ ?_ | refine LeO.bind ?_ (fun _ => ?_)
theorem decimal_text.mono : ∀ a0 a1 a2 k, LeO (decimal_text.f k a0 a1 a2) (decimal_text.f (k + 1) a0 a1 a2) := by
  intro a0 a1 a2 k
  have ih0 := decimal_text.mono_l k
  unfold decimal_text.f
  repeat' first
   | with_reducible first
    | exact ih0 _ _ _ _
    | exact digits_Text.mono _ _
    | exact LeO.refl _
    | exact LeO.none _
    | refine LeO.ite ?_ ?_
    | refine LeO.bind ?_ (fun _ => ?_)
   | exact LeO.none _ | refine LeO.ite ?_ ?_ | refine LeO.bind ?_ (fun _ => ?_)
def decimal_Down.f (k : Nat) (a0_0 : Bool) (l0_1 : List Int) (l0_2 : List Int) (a1 : Int) : Option (ByteArray × Int) := (decimal_split.f k a0_0 l0_1 l0_2 a1).bind fun bt890 => (if bt890.2.2.2.2.2 = 0 then ((decimal_text.f k bt890.1 bt890.2.1 a1).bind fun t902 => (some (t902, 0))) else (some ((⟨#[]⟩ : ByteArray), bt890.2.2.2.2.2)))
theorem decimal_Down.mono : ∀ a0 a1 a2 a3 k, LeO (decimal_Down.f k a0 a1 a2 a3) (decimal_Down.f (k + 1) a0 a1 a2 a3) := by
  intro a0 a1 a2 a3 k
  unfold decimal_Down.f
  repeat' first
   | with_reducible first
    | exact decimal_split.mono _ _ _ _ _
    | exact decimal_text.mono _ _ _ _
    | exact LeO.refl _
    | exact LeO.none _
    | refine LeO.ite ?_ ?_
    | refine LeO.bind ?_ (fun _ => ?_)
   | exact LeO.none _ | refine LeO.ite ?_ ?_ | refine LeO.bind ?_ (fun _ => ?_)
end Go.Proofs.YtjgmmaeafodpmaaDoor.P
set_option linter.unusedVariables false
set_option linter.unusedSimpArgs false
namespace Go.Proofs.YtjgmmaeafodpmaaDoor.P
open Go.RowKit Go.Proofs.YtjgmmaeafodpmaaDoorW.PrintWords Go.Proofs.YtjgmmaeafodpmaaDoorW.PrintLast Go.Proofs.YtjgmmaeafodpmaaDoorW.PrintMore
def root_power.f (a0 : Int) : Option (List Int) := if 0 ≤ (wrap64 ((wrap64 (Int.tdiv a0 32)) + 1)) then (if (wrap64 ((wrap64 (Int.tdiv a0 32)) + 1) : Int).toNat ≤ 70368744177664 then ((some (List.replicate (wrap64 ((wrap64 (Int.tdiv a0 32)) + 1) : Int).toNat 0 : List Int)).bind fun y442 => (if 0 ≤ (Int.tmod a0 32) then (if 0 ≤ (wrap64 (Int.tdiv a0 32)) then (if (wrap64 (Int.tdiv a0 32)) < (y442.length : Int) then (some (y442.set ((wrap64 (Int.tdiv a0 32)) : Int).toNat (shl .u32 1 (Int.tmod a0 32)))) else (none)) else (none)) else (none))) else (none)) else (none)
def root_Floor.l0 : Nat → List Int → List Int → Option (List Int × Bool)
  | 0, _, _ => none
  | k + 1, x0, x2 => (quo_Rem.f k x0 x2).bind fun bt456 => ((nat_Add.f k x2 bt456.1).bind fun t463 => ((mul_Shift.f k t463 (-1)).bind fun t466 => ((nat_Cmp.f k t466 x2).bind fun t469 => (if t469 ≥ 0 then ((mul_Of.f k x2 x2).bind fun t470 => ((nat_Cmp.f k t470 x0).bind fun t473 => (some (x2, (t473 == 0))))) else (if 0 ≤ (t466.length : Int) then (if ((t466.length : Int) : Int).toNat ≤ 70368744177664 then (root_Floor.l0 k x0 (cpy (List.replicate ((t466.length : Int) : Int).toNat 0) 0 t466)) else (none)) else (none))))))
def root_Floor.f (k : Nat) (l0 : List Int) : Option (List Int × Bool) := (nat_Trim.f k l0).bind fun t449 => (if (t449.length : Int) = 0 then (some (t449, true)) else ((nat_Bits.f k t449).bind fun t452 => ((root_power.f (wrap64 (Int.tdiv (wrap64 (t452 + 1)) 2))).bind fun t453 => (root_Floor.l0 k t449 t453))))
theorem root_Floor.mono_l : ∀ k, (∀ y0 y1, LeO (root_Floor.l0 k y0 y1) (root_Floor.l0 (k + 1) y0 y1))
  | 0 => fun _ _ r h => by simp [root_Floor.l0] at h
  | k + 1 => by
    have ih0 := root_Floor.mono_l k
    · intro y0 y1
      unfold root_Floor.l0
      repeat' first
       | with_reducible first
        | exact ih0 _ _
        | exact mul_Of.mono _ _ _
        | exact mul_Shift.mono _ _ _
        | exact nat_Add.mono _ _ _
        | exact nat_Bits.mono _ _
        | exact nat_Cmp.mono _ _ _
        | exact nat_Trim.mono _ _
        | exact quo_Rem.mono _ _ _
        | exact LeO.refl _
        | exact LeO.none _
        | refine LeO.ite ?_ ?_
        | refine LeO.bind ?_ (fun _ => ?_)
       | exact LeO.none _ | refine LeO.ite ?_ ?_ | refine LeO.bind ?_ (fun _ => ?_)
theorem root_Floor.mono : ∀ a0 k, LeO (root_Floor.f k a0) (root_Floor.f (k + 1) a0) := by
  intro a0 k
  have ih0 := root_Floor.mono_l k
  unfold root_Floor.f
  repeat' first
   | with_reducible first
    | exact ih0 _ _
    | exact mul_Of.mono _ _ _
    | exact mul_Shift.mono _ _ _
    | exact nat_Add.mono _ _ _
    | exact nat_Bits.mono _ _
    | exact nat_Cmp.mono _ _ _
    | exact nat_Trim.mono _ _
    | exact quo_Rem.mono _ _ _
    | exact LeO.refl _
    | exact LeO.none _
    | refine LeO.ite ?_ ?_
    | refine LeO.bind ?_ (fun _ => ?_)
   | exact LeO.none _ | refine LeO.ite ?_ ?_ | refine LeO.bind ?_ (fun _ => ?_)
end Go.Proofs.YtjgmmaeafodpmaaDoor.P
set_option linter.unusedVariables false
set_option linter.unusedSimpArgs false
namespace Go.Proofs.YtjgmmaeafodpmaaDoor.P
open Go.RowKit Go.Proofs.YtjgmmaeafodpmaaDoorW.PrintWords Go.Proofs.YtjgmmaeafodpmaaDoorW.PrintLast Go.Proofs.YtjgmmaeafodpmaaDoorW.PrintMore
mutual
def enclose_Root.j0 : Nat → Int → Bool → Bool → List Int → List Int → Option (Bool × List Int × List Int × Bool × List Int × List Int × Int)
  | 0, _, _, _, _, _ => none
  | k + 1, x1, x15, x505000, x505001, x505002 => if x15 = true then (some (false, ([] : List Int), ([] : List Int), false, ([] : List Int), ([] : List Int), 1)) else ((rat_Sign.f k x505000 x505001 x505002).bind fun t508 => (if t508 < 0 then (some (false, ([] : List Int), ([] : List Int), false, ([] : List Int), ([] : List Int), 18)) else ((digits_Ten.f k x1).bind fun bt509 => ((mul_Of.f k bt509.1 bt509.1).bind fun t513 => ((mul_Of.f k x505001 t513).bind fun t516 => ((quo_Rem.f k t516 x505002).bind fun bt519 => ((root_Floor.f k bt519.1).bind fun bt526 => (if 0 ≤ (bt526.1.length : Int) then (if ((bt526.1.length : Int) : Int).toNat ≤ 70368744177664 then ((some (cpy (List.replicate ((bt526.1.length : Int) : Int).toNat 0) 0 bt526.1 : List Int)).bind fun y533 => (if bt526.2 = true then (enclose_Root.j1 k bt509.1 bt526.1 y533 (decide ((bt519.2.1.length : Int) > 0))) else (enclose_Root.j1 k bt509.1 bt526.1 y533 true))) else (none)) else (none)))))))))
def enclose_Root.j1 : Nat → List Int → List Int → List Int → Bool → Option (Bool × List Int × List Int × Bool × List Int × List Int × Int)
  | 0, _, _, _, _ => none
  | k + 1, x7, x12, x14, x71 => if x71 = true then ((nat_Of.f k 1).bind fun t534 => ((nat_Add.f k x12 t534).bind fun t537 => (enclose_Root.j2 k x7 x12 t537))) else (enclose_Root.j2 k x7 x12 x14)
def enclose_Root.j2 : Nat → List Int → List Int → List Int → Option (Bool × List Int × List Int × Bool × List Int × List Int × Int)
  | 0, _, _, _ => none
  | k + 1, x7, x12, x14 => (rat_Of.f k false x12 x7).bind fun bt540 => (if bt540.2.2.2 = 0 then ((rat_Of.f k false x14 x7).bind fun bt548 => (if bt548.2.2.2 = 0 then (some (bt540.1, bt540.2.1, bt540.2.2.1, bt548.1, bt548.2.1, bt548.2.2.1, 0)) else (some (false, ([] : List Int), ([] : List Int), false, ([] : List Int), ([] : List Int), bt548.2.2.2)))) else (some (false, ([] : List Int), ([] : List Int), false, ([] : List Int), ([] : List Int), bt540.2.2.2)))
end
def enclose_Root.f (k : Nat) (a0_0 : Bool) (l0_1 : List Int) (l0_2 : List Int) (a1 : Int) : Option (Bool × List Int × List Int × Bool × List Int × List Int × Int) := (rat_Good.f k a0_0 l0_1 l0_2).bind fun t507 => (if t507 = true then (if a1 < 0 then (enclose_Root.j0 k a1 true a0_0 l0_1 l0_2) else (enclose_Root.j0 k a1 (decide (a1 > 60)) a0_0 l0_1 l0_2)) else (enclose_Root.j0 k a1 true a0_0 l0_1 l0_2))
theorem enclose_Root.mono_l : ∀ k, (∀ y0 y1 y2 y3 y4, LeO (enclose_Root.j0 k y0 y1 y2 y3 y4) (enclose_Root.j0 (k + 1) y0 y1 y2 y3 y4)) ∧ (∀ y0 y1 y2 y3, LeO (enclose_Root.j1 k y0 y1 y2 y3) (enclose_Root.j1 (k + 1) y0 y1 y2 y3)) ∧ (∀ y0 y1 y2, LeO (enclose_Root.j2 k y0 y1 y2) (enclose_Root.j2 (k + 1) y0 y1 y2))
  | 0 => ⟨fun _ _ _ _ _ r h => by simp [enclose_Root.j0] at h, fun _ _ _ _ r h => by simp [enclose_Root.j1] at h, fun _ _ _ r h => by simp [enclose_Root.j2] at h⟩
  | k + 1 => by
    obtain ⟨ih0, ih1, ih2⟩ := enclose_Root.mono_l k
    refine ⟨?_, ?_, ?_⟩
    · intro y0 y1 y2 y3 y4
      unfold enclose_Root.j0
      repeat' first
       | with_reducible first
        | exact ih0 _ _ _ _ _
        | exact ih1 _ _ _ _
        | exact ih2 _ _ _
        | exact digits_Ten.mono _ _
        | exact mul_Of.mono _ _ _
        | exact nat_Add.mono _ _ _
        | exact nat_Of.mono _ _
        | exact quo_Rem.mono _ _ _
        | exact rat_Good.mono _ _ _ _
        | exact rat_Of.mono _ _ _ _
        | exact rat_Sign.mono _ _ _ _
        | exact root_Floor.mono _ _
        | exact LeO.refl _
        | exact LeO.none _
        | refine LeO.ite ?_ ?_
        | refine LeO.bind ?_ (fun _ => ?_)
       | exact LeO.none _ | refine LeO.ite ?_ ?_ | refine LeO.bind ?_ (fun _ => ?_)
    · intro y0 y1 y2 y3
      unfold enclose_Root.j1
      repeat' first
       | with_reducible first
        | exact ih0 _ _ _ _ _
        | exact ih1 _ _ _ _
        | exact ih2 _ _ _
        | exact digits_Ten.mono _ _
        | exact mul_Of.mono _ _ _
        | exact nat_Add.mono _ _ _
        | exact nat_Of.mono _ _
        | exact quo_Rem.mono _ _ _
        | exact rat_Good.mono _ _ _ _
        | exact rat_Of.mono _ _ _ _
        | exact rat_Sign.mono _ _ _ _
        | exact root_Floor.mono _ _
        | exact LeO.refl _
        | exact LeO.none _
        | refine LeO.ite ?_ ?_
        | refine LeO.bind ?_ (fun _ => ?_)
       | exact LeO.none _ | refine LeO.ite ?_ ?_ | refine LeO.bind ?_ (fun _ => ?_)
    · intro y0 y1 y2
      unfold enclose_Root.j2
      repeat' first
       | with_reducible first
        | exact ih0 _ _ _ _ _
        | exact ih1 _ _ _ _
        | exact ih2 _ _ _
        | exact digits_Ten.mono _ _
        | exact mul_Of.mono _ _ _
        | exact nat_Add.mono _ _ _
        | exact nat_Of.mono _ _
        | exact quo_Rem.mono _ _ _
        | exact rat_Good.mono _ _ _ _
        | exact rat_Of.mono _ _ _ _
        | exact rat_Sign.mono _ _ _ _
        | exact root_Floor.mono _ _
        | exact LeO.refl _
        | exact LeO.none _
        | refine LeO.ite ?_ ?_
        | refine LeO.bind ?_ (fun _ => ?_)
       | exact LeO.none _ | refine LeO.ite ?_ ?_ | refine LeO.bind ?_ (fun _ => ?_)
theorem enclose_Root.mono : ∀ a0 a1 a2 a3 k, LeO (enclose_Root.f k a0 a1 a2 a3) (enclose_Root.f (k + 1) a0 a1 a2 a3) := by
  intro a0 a1 a2 a3 k
  obtain ⟨ih0, ih1, ih2⟩ := enclose_Root.mono_l k
  unfold enclose_Root.f
  repeat' first
   | with_reducible first
    | exact ih0 _ _ _ _ _
    | exact ih1 _ _ _ _
    | exact ih2 _ _ _
    | exact digits_Ten.mono _ _
    | exact mul_Of.mono _ _ _
    | exact nat_Add.mono _ _ _
    | exact nat_Of.mono _ _
    | exact quo_Rem.mono _ _ _
    | exact rat_Good.mono _ _ _ _
    | exact rat_Of.mono _ _ _ _
    | exact rat_Sign.mono _ _ _ _
    | exact root_Floor.mono _ _
    | exact LeO.refl _
    | exact LeO.none _
    | refine LeO.ite ?_ ?_
    | refine LeO.bind ?_ (fun _ => ?_)
   | exact LeO.none _ | refine LeO.ite ?_ ?_ | refine LeO.bind ?_ (fun _ => ?_)
def enclose_Text.j0 : Nat → Int → ByteArray → Int → Bool → List Int → List Int → Option (ByteArray × ByteArray × Int)
  | 0, _, _, _, _, _, _ => none
  | k + 1, x1, x4, x6, x921000, x921001, x921002 => if x6 = 0 then ((decimal_Down.f k x921000 x921001 x921002 x1).bind fun bt923 => (if bt923.2 = 0 then (some (x4, bt923.1, 0)) else (some ((⟨#[]⟩ : ByteArray), (⟨#[]⟩ : ByteArray), bt923.2)))) else (some ((⟨#[]⟩ : ByteArray), (⟨#[]⟩ : ByteArray), x6))
def enclose_Text.f (k : Nat) (a0_0 : Bool) (l0_1 : List Int) (l0_2 : List Int) (a1 : Int) : Option (ByteArray × ByteArray × Int) := (enclose_Root.f k a0_0 l0_1 l0_2 a1).bind fun bt904 => (if bt904.2.2.2.2.2.2 = 0 then ((decimal_Down.f k bt904.1 bt904.2.1 bt904.2.2.1 a1).bind fun bt921 => (enclose_Text.j0 k a1 bt921.1 bt921.2 bt904.2.2.2.1 bt904.2.2.2.2.1 bt904.2.2.2.2.2.1)) else (enclose_Text.j0 k a1 (⟨#[]⟩ : ByteArray) bt904.2.2.2.2.2.2 bt904.2.2.2.1 bt904.2.2.2.2.1 bt904.2.2.2.2.2.1))
theorem enclose_Text.mono_l : ∀ k, (∀ y0 y1 y2 y3 y4 y5, LeO (enclose_Text.j0 k y0 y1 y2 y3 y4 y5) (enclose_Text.j0 (k + 1) y0 y1 y2 y3 y4 y5))
  | 0 => fun _ _ _ _ _ _ r h => by simp [enclose_Text.j0] at h
  | k + 1 => by
    have ih0 := enclose_Text.mono_l k
    · intro y0 y1 y2 y3 y4 y5
      unfold enclose_Text.j0
      repeat' first
       | with_reducible first
        | exact ih0 _ _ _ _ _ _
        | exact decimal_Down.mono _ _ _ _ _
        | exact enclose_Root.mono _ _ _ _ _
        | exact LeO.refl _
        | exact LeO.none _
        | refine LeO.ite ?_ ?_
        | refine LeO.bind ?_ (fun _ => ?_)
       | exact LeO.none _ | refine LeO.ite ?_ ?_ | refine LeO.bind ?_ (fun _ => ?_)
theorem enclose_Text.mono : ∀ a0 a1 a2 a3 k, LeO (enclose_Text.f k a0 a1 a2 a3) (enclose_Text.f (k + 1) a0 a1 a2 a3) := by
  intro a0 a1 a2 a3 k
  have ih0 := enclose_Text.mono_l k
  unfold enclose_Text.f
  repeat' first
   | with_reducible first
    | exact ih0 _ _ _ _ _ _
    | exact decimal_Down.mono _ _ _ _ _
    | exact enclose_Root.mono _ _ _ _ _
    | exact LeO.refl _
    | exact LeO.none _
    | refine LeO.ite ?_ ?_
    | refine LeO.bind ?_ (fun _ => ?_)
   | exact LeO.none _ | refine LeO.ite ?_ ?_ | refine LeO.bind ?_ (fun _ => ?_)
end Go.Proofs.YtjgmmaeafodpmaaDoor.P
set_option linter.unusedVariables false
set_option linter.unusedSimpArgs false
namespace Go.Proofs.YtjgmmaeafodpmaaDoor.P
open Go.RowKit Go.Proofs.YtjgmmaeafodpmaaDoorW.PrintWords Go.Proofs.YtjgmmaeafodpmaaDoorW.PrintLast Go.Proofs.YtjgmmaeafodpmaaDoorW.PrintMore
def steelyardkeep_Nat.l0 : Nat → List Int → List Int → Int → Option (Bool)
  | 0, _, _, _ => none
  | k + 1, x0, x1, x5 => if x5 < (x0.length : Int) then (if 0 ≤ x5 then (if x5 < (x1.length : Int) then (if (rd x0 x5) = (rd x1 x5) then (steelyardkeep_Nat.l0 k x0 x1 (wrap64 (x5 + 1))) else (some false)) else (none)) else (none)) else (some true)
def steelyardkeep_Nat.f (k : Nat) (l0 : List Int) (l1 : List Int) : Option (Bool) := if (l0.length : Int) = (l1.length : Int) then (steelyardkeep_Nat.l0 k l0 l1 0) else (some false)
theorem steelyardkeep_Nat.mono_l : ∀ k, (∀ y0 y1 y2, LeO (steelyardkeep_Nat.l0 k y0 y1 y2) (steelyardkeep_Nat.l0 (k + 1) y0 y1 y2))
  | 0 => fun _ _ _ r h => by simp [steelyardkeep_Nat.l0] at h
  | k + 1 => by
    have ih0 := steelyardkeep_Nat.mono_l k
    · intro y0 y1 y2
      unfold steelyardkeep_Nat.l0
      repeat' first
       | with_reducible first
        | exact ih0 _ _ _
        | exact LeO.refl _
        | exact LeO.none _
        | refine LeO.ite ?_ ?_
        | refine LeO.bind ?_ (fun _ => ?_)
       | exact LeO.none _ | refine LeO.ite ?_ ?_ | refine LeO.bind ?_ (fun _ => ?_)
theorem steelyardkeep_Nat.mono : ∀ a0 a1 k, LeO (steelyardkeep_Nat.f k a0 a1) (steelyardkeep_Nat.f (k + 1) a0 a1) := by
  intro a0 a1 k
  have ih0 := steelyardkeep_Nat.mono_l k
  unfold steelyardkeep_Nat.f
  repeat' first
   | with_reducible first
    | exact ih0 _ _ _
    | exact LeO.refl _
    | exact LeO.none _
    | refine LeO.ite ?_ ?_
    | refine LeO.bind ?_ (fun _ => ?_)
   | exact LeO.none _ | refine LeO.ite ?_ ?_ | refine LeO.bind ?_ (fun _ => ?_)
def steelyardkeep_Int.f (k : Nat) (a0_0 : Bool) (l0_1 : List Int) (a1_0 : Bool) (l1_1 : List Int) : Option (Bool) := if (a0_0 == a1_0) = true then ((steelyardkeep_Nat.f k l0_1 l1_1).bind fun t743 => (some t743)) else (some false)
theorem steelyardkeep_Int.mono : ∀ a0 a1 a2 a3 k, LeO (steelyardkeep_Int.f k a0 a1 a2 a3) (steelyardkeep_Int.f (k + 1) a0 a1 a2 a3) := by
  intro a0 a1 a2 a3 k
  unfold steelyardkeep_Int.f
  repeat' first
   | with_reducible first
    | exact steelyardkeep_Nat.mono _ _ _
    | exact LeO.refl _
    | exact LeO.none _
    | refine LeO.ite ?_ ?_
    | refine LeO.bind ?_ (fun _ => ?_)
   | exact LeO.none _ | refine LeO.ite ?_ ?_ | refine LeO.bind ?_ (fun _ => ?_)
def steelyardkeep_Rat.f (k : Nat) (a0_0 : Bool) (l0_1 : List Int) (l0_2 : List Int) (a1_0 : Bool) (l1_1 : List Int) (l1_2 : List Int) : Option (Bool) := (steelyardkeep_Int.f k a0_0 l0_1 a1_0 l1_1).bind fun t746 => (if t746 = true then ((steelyardkeep_Nat.f k l0_2 l1_2).bind fun t747 => (some t747)) else (some false))
theorem steelyardkeep_Rat.mono : ∀ a0 a1 a2 a3 a4 a5 k, LeO (steelyardkeep_Rat.f k a0 a1 a2 a3 a4 a5) (steelyardkeep_Rat.f (k + 1) a0 a1 a2 a3 a4 a5) := by
  intro a0 a1 a2 a3 a4 a5 k
  unfold steelyardkeep_Rat.f
  repeat' first
   | with_reducible first
    | exact steelyardkeep_Int.mono _ _ _ _ _
    | exact steelyardkeep_Nat.mono _ _ _
    | exact LeO.refl _
    | exact LeO.none _
    | refine LeO.ite ?_ ?_
    | refine LeO.bind ?_ (fun _ => ?_)
   | exact LeO.none _ | refine LeO.ite ?_ ?_ | refine LeO.bind ?_ (fun _ => ?_)
end Go.Proofs.YtjgmmaeafodpmaaDoor.P
set_option linter.unusedVariables false
set_option linter.unusedSimpArgs false
namespace Go.Proofs.YtjgmmaeafodpmaaDoor.P
open Go.RowKit Go.Proofs.YtjgmmaeafodpmaaDoorW.PrintWords Go.Proofs.YtjgmmaeafodpmaaDoorW.PrintLast Go.Proofs.YtjgmmaeafodpmaaDoorW.PrintMore
def steelyardref01_Trim.l0 : Nat → List Int → Int → Option (List Int)
  | 0, _, _ => none
  | k + 1, x0, x3 => if x3 > 0 then (if 0 ≤ (wrap64 (x3 - 1)) then (if (wrap64 (x3 - 1)) < (x0.length : Int) then (if (rd x0 (wrap64 (x3 - 1))) = 0 then (steelyardref01_Trim.l0 k x0 (wrap64 (x3 - 1))) else ((some (([] : List Int) : List Int)).bind fun y103 => (if 0 ≤ x3 then (if x3 ≤ (x0.length : Int) then (if y103.length + (x0.take (x3 : Int).toNat).length < 35184372088832 then (some (y103 ++ (x0.take (x3 : Int).toNat))) else (none)) else (none)) else (none)))) else (none)) else (none)) else ((some (([] : List Int) : List Int)).bind fun y110 => (if 0 ≤ x3 then (if x3 ≤ (x0.length : Int) then (if y110.length + (x0.take (x3 : Int).toNat).length < 35184372088832 then (some (y110 ++ (x0.take (x3 : Int).toNat))) else (none)) else (none)) else (none)))
def steelyardref01_Trim.f (k : Nat) (l0 : List Int) : Option (List Int) := steelyardref01_Trim.l0 k l0 (l0.length : Int)
theorem steelyardref01_Trim.mono_l : ∀ k, (∀ y0 y1, LeO (steelyardref01_Trim.l0 k y0 y1) (steelyardref01_Trim.l0 (k + 1) y0 y1))
  | 0 => fun _ _ r h => by simp [steelyardref01_Trim.l0] at h
  | k + 1 => by
    have ih0 := steelyardref01_Trim.mono_l k
    · intro y0 y1
      unfold steelyardref01_Trim.l0
      repeat' first
       | with_reducible first
        | exact ih0 _ _
        | exact LeO.refl _
        | exact LeO.none _
        | refine LeO.ite ?_ ?_
        | refine LeO.bind ?_ (fun _ => ?_)
       | exact LeO.none _ | refine LeO.ite ?_ ?_ | refine LeO.bind ?_ (fun _ => ?_)
theorem steelyardref01_Trim.mono : ∀ a0 k, LeO (steelyardref01_Trim.f k a0) (steelyardref01_Trim.f (k + 1) a0) := by
  intro a0 k
  have ih0 := steelyardref01_Trim.mono_l k
  unfold steelyardref01_Trim.f
  repeat' first
   | with_reducible first
    | exact ih0 _ _
    | exact LeO.refl _
    | exact LeO.none _
    | refine LeO.ite ?_ ?_
    | refine LeO.bind ?_ (fun _ => ?_)
   | exact LeO.none _ | refine LeO.ite ?_ ?_ | refine LeO.bind ?_ (fun _ => ?_)
def steelyardref01_at.f (l0 : List Int) (a1 : Int) : Option (Int) := if a1 ≥ (l0.length : Int) then (some 0) else (if 0 ≤ a1 then (if a1 < (l0.length : Int) then (some (IntKind.u64.wrap (rd l0 a1))) else (none)) else (none))
def steelyardref01_Cmp.l0 : Nat → List Int → List Int → Int → Option (Int)
  | 0, _, _, _ => none
  | k + 1, x0, x1, x5 => if x5 ≥ 0 then ((steelyardref01_at.f x0 x5).bind fun t131 => ((steelyardref01_at.f x1 x5).bind fun t132 => (if t131 < t132 then (some (-1)) else ((steelyardref01_at.f x0 x5).bind fun t133 => ((steelyardref01_at.f x1 x5).bind fun t134 => (if t133 > t134 then (some 1) else (steelyardref01_Cmp.l0 k x0 x1 (wrap64 (x5 - 1))))))))) else (some 0)
def steelyardref01_Cmp.f (k : Nat) (l0 : List Int) (l1 : List Int) : Option (Int) := steelyardref01_Cmp.l0 k l0 l1 (wrap64 ((mx (l0.length : Int) (l1.length : Int)) - 1))
theorem steelyardref01_Cmp.mono_l : ∀ k, (∀ y0 y1 y2, LeO (steelyardref01_Cmp.l0 k y0 y1 y2) (steelyardref01_Cmp.l0 (k + 1) y0 y1 y2))
  | 0 => fun _ _ _ r h => by simp [steelyardref01_Cmp.l0] at h
  | k + 1 => by
    have ih0 := steelyardref01_Cmp.mono_l k
    · intro y0 y1 y2
      unfold steelyardref01_Cmp.l0
      repeat' first
       | with_reducible first
        | exact ih0 _ _ _
        | exact LeO.refl _
        | exact LeO.none _
        | refine LeO.ite ?_ ?_
        | refine LeO.bind ?_ (fun _ => ?_)
       | exact LeO.none _ | refine LeO.ite ?_ ?_ | refine LeO.bind ?_ (fun _ => ?_)
theorem steelyardref01_Cmp.mono : ∀ a0 a1 k, LeO (steelyardref01_Cmp.f k a0 a1) (steelyardref01_Cmp.f (k + 1) a0 a1) := by
  intro a0 a1 k
  have ih0 := steelyardref01_Cmp.mono_l k
  unfold steelyardref01_Cmp.f
  repeat' first
   | with_reducible first
    | exact ih0 _ _ _
    | exact LeO.refl _
    | exact LeO.none _
    | refine LeO.ite ?_ ?_
    | refine LeO.bind ?_ (fun _ => ?_)
   | exact LeO.none _ | refine LeO.ite ?_ ?_ | refine LeO.bind ?_ (fun _ => ?_)
def steelyardref01_Sub.l0 : Nat → List Int → List Int → List Int → Int → Int → Option (List Int)
  | 0, _, _, _, _, _ => none
  | k + 1, x0, x1, x5, x6, x7 => if x7 < (x0.length : Int) then ((steelyardref01_at.f x0 x7).bind fun t138 => ((steelyardref01_at.f x1 x7).bind fun t139 => (if t138 < (IntKind.u64.wrap (t139 + x6)) then (if x5.length < 35184372088832 then (steelyardref01_Sub.l0 k x0 x1 (x5 ++ [(IntKind.u64.wrap ((IntKind.u64.wrap (t138 + 4294967296)) - (IntKind.u64.wrap (t139 + x6)))) % 4294967296]) 1 (wrap64 (x7 + 1))) else (none)) else (if x5.length < 35184372088832 then (steelyardref01_Sub.l0 k x0 x1 (x5 ++ [(IntKind.u64.wrap (t138 - (IntKind.u64.wrap (t139 + x6)))) % 4294967296]) 0 (wrap64 (x7 + 1))) else (none))))) else ((steelyardref01_Trim.f k x5).bind fun t135 => (some t135))
def steelyardref01_Sub.f (k : Nat) (l0 : List Int) (l1 : List Int) : Option (List Int) := steelyardref01_Sub.l0 k l0 l1 ([] : List Int) 0 0
theorem steelyardref01_Sub.mono_l : ∀ k, (∀ y0 y1 y2 y3 y4, LeO (steelyardref01_Sub.l0 k y0 y1 y2 y3 y4) (steelyardref01_Sub.l0 (k + 1) y0 y1 y2 y3 y4))
  | 0 => fun _ _ _ _ _ r h => by simp [steelyardref01_Sub.l0] at h
  | k + 1 => by
    have ih0 := steelyardref01_Sub.mono_l k
    · intro y0 y1 y2 y3 y4
      unfold steelyardref01_Sub.l0
      repeat' first
       | with_reducible first
        | exact ih0 _ _ _ _ _
        | exact steelyardref01_Trim.mono _ _
        | exact LeO.refl _
        | exact LeO.none _
        | refine LeO.ite ?_ ?_
        | refine LeO.bind ?_ (fun _ => ?_)
       | exact LeO.none _ | refine LeO.ite ?_ ?_ | refine LeO.bind ?_ (fun _ => ?_)
theorem steelyardref01_Sub.mono : ∀ a0 a1 k, LeO (steelyardref01_Sub.f k a0 a1) (steelyardref01_Sub.f (k + 1) a0 a1) := by
  intro a0 a1 k
  have ih0 := steelyardref01_Sub.mono_l k
  unfold steelyardref01_Sub.f
  repeat' first
   | with_reducible first
    | exact ih0 _ _ _ _ _
    | exact steelyardref01_Trim.mono _ _
    | exact LeO.refl _
    | exact LeO.none _
    | refine LeO.ite ?_ ?_
    | refine LeO.bind ?_ (fun _ => ?_)
   | exact LeO.none _ | refine LeO.ite ?_ ?_ | refine LeO.bind ?_ (fun _ => ?_)
def steelyardref01_Bit.f (l0 : List Int) (a1 : Int) : Option (Bool) := if a1 ≥ 0 then ((steelyardref01_at.f l0 (wrap64 (Int.tdiv a1 32))).bind fun t146 => (if 0 ≤ (IntKind.u64.wrap (Int.tmod a1 32)) then (some ((Go.bits .and .u64 (shr .u64 t146 (IntKind.u64.wrap (Int.tmod a1 32))) 1) == 1)) else (none))) else (some false)
def steelyardref01_Bits.l0 : Nat → List Int → Int → Option (Int)
  | 0, _, _ => none
  | k + 1, x0, x3 => if x3 > 0 then ((steelyardref01_Bit.f x0 (wrap64 (x3 - 1))).bind fun t147 => (if t147 = true then (some x3) else (steelyardref01_Bits.l0 k x0 (wrap64 (x3 - 1))))) else (some x3)
def steelyardref01_Bits.f (k : Nat) (l0 : List Int) : Option (Int) := steelyardref01_Bits.l0 k l0 (wrap64 (32 * (l0.length : Int)))
theorem steelyardref01_Bits.mono_l : ∀ k, (∀ y0 y1, LeO (steelyardref01_Bits.l0 k y0 y1) (steelyardref01_Bits.l0 (k + 1) y0 y1))
  | 0 => fun _ _ r h => by simp [steelyardref01_Bits.l0] at h
  | k + 1 => by
    have ih0 := steelyardref01_Bits.mono_l k
    · intro y0 y1
      unfold steelyardref01_Bits.l0
      repeat' first
       | with_reducible first
        | exact ih0 _ _
        | exact LeO.refl _
        | exact LeO.none _
        | refine LeO.ite ?_ ?_
        | refine LeO.bind ?_ (fun _ => ?_)
       | exact LeO.none _ | refine LeO.ite ?_ ?_ | refine LeO.bind ?_ (fun _ => ?_)
theorem steelyardref01_Bits.mono : ∀ a0 k, LeO (steelyardref01_Bits.f k a0) (steelyardref01_Bits.f (k + 1) a0) := by
  intro a0 k
  have ih0 := steelyardref01_Bits.mono_l k
  unfold steelyardref01_Bits.f
  repeat' first
   | with_reducible first
    | exact ih0 _ _
    | exact LeO.refl _
    | exact LeO.none _
    | refine LeO.ite ?_ ?_
    | refine LeO.bind ?_ (fun _ => ?_)
   | exact LeO.none _ | refine LeO.ite ?_ ?_ | refine LeO.bind ?_ (fun _ => ?_)
mutual
def steelyardref01_Add.l0 : Nat → List Int → List Int → List Int → Int → Int → Option (List Int)
  | 0, _, _, _, _, _ => none
  | k + 1, x0, x1, x5, x6, x7 => if x7 < (x0.length : Int) then (steelyardref01_Add.j1 k x0 x1 x5 x6 x7 true) else (if x7 < (x1.length : Int) then (steelyardref01_Add.j1 k x0 x1 x5 x6 x7 true) else (steelyardref01_Add.j1 k x0 x1 x5 x6 x7 (decide (x6 > 0))))
def steelyardref01_Add.j1 : Nat → List Int → List Int → List Int → Int → Int → Bool → Option (List Int)
  | 0, _, _, _, _, _, _ => none
  | k + 1, x0, x1, x5, x6, x7, x21 => if x21 = true then ((steelyardref01_at.f x0 x7).bind fun t594 => ((steelyardref01_at.f x1 x7).bind fun t595 => (if x5.length < 35184372088832 then (steelyardref01_Add.l0 k x0 x1 (x5 ++ [(IntKind.u64.wrap (x6 + (IntKind.u64.wrap (t594 + t595)))) % 4294967296]) ((IntKind.u64.wrap (x6 + (IntKind.u64.wrap (t594 + t595)))) / 4294967296) (wrap64 (x7 + 1))) else (none)))) else ((steelyardref01_Trim.f k x5).bind fun t599 => (some t599))
end
def steelyardref01_Add.f (k : Nat) (l0 : List Int) (l1 : List Int) : Option (List Int) := steelyardref01_Add.l0 k l0 l1 ([] : List Int) 0 0
theorem steelyardref01_Add.mono_l : ∀ k, (∀ y0 y1 y2 y3 y4, LeO (steelyardref01_Add.l0 k y0 y1 y2 y3 y4) (steelyardref01_Add.l0 (k + 1) y0 y1 y2 y3 y4)) ∧ (∀ y0 y1 y2 y3 y4 y5, LeO (steelyardref01_Add.j1 k y0 y1 y2 y3 y4 y5) (steelyardref01_Add.j1 (k + 1) y0 y1 y2 y3 y4 y5))
  | 0 => ⟨fun _ _ _ _ _ r h => by simp [steelyardref01_Add.l0] at h, fun _ _ _ _ _ _ r h => by simp [steelyardref01_Add.j1] at h⟩
  | k + 1 => by
    obtain ⟨ih0, ih1⟩ := steelyardref01_Add.mono_l k
    refine ⟨?_, ?_⟩
    · intro y0 y1 y2 y3 y4
      unfold steelyardref01_Add.l0
      repeat' first
       | with_reducible first
        | exact ih0 _ _ _ _ _
        | exact ih1 _ _ _ _ _ _
        | exact steelyardref01_Trim.mono _ _
        | exact LeO.refl _
        | exact LeO.none _
        | refine LeO.ite ?_ ?_
        | refine LeO.bind ?_ (fun _ => ?_)
       | exact LeO.none _ | refine LeO.ite ?_ ?_ | refine LeO.bind ?_ (fun _ => ?_)
    · intro y0 y1 y2 y3 y4 y5
      unfold steelyardref01_Add.j1
      repeat' first
       | with_reducible first
        | exact ih0 _ _ _ _ _
        | exact ih1 _ _ _ _ _ _
        | exact steelyardref01_Trim.mono _ _
        | exact LeO.refl _
        | exact LeO.none _
        | refine LeO.ite ?_ ?_
        | refine LeO.bind ?_ (fun _ => ?_)
       | exact LeO.none _ | refine LeO.ite ?_ ?_ | refine LeO.bind ?_ (fun _ => ?_)
theorem steelyardref01_Add.mono : ∀ a0 a1 k, LeO (steelyardref01_Add.f k a0 a1) (steelyardref01_Add.f (k + 1) a0 a1) := by
  intro a0 a1 k
  obtain ⟨ih0, ih1⟩ := steelyardref01_Add.mono_l k
  unfold steelyardref01_Add.f
  repeat' first
   | with_reducible first
    | exact ih0 _ _ _ _ _
    | exact ih1 _ _ _ _ _ _
    | exact steelyardref01_Trim.mono _ _
    | exact LeO.refl _
    | exact LeO.none _
    | refine LeO.ite ?_ ?_
    | refine LeO.bind ?_ (fun _ => ?_)
   | exact LeO.none _ | refine LeO.ite ?_ ?_ | refine LeO.bind ?_ (fun _ => ?_)
def steelyardref01_Of.f (k : Nat) (a0 : Int) : Option (List Int) := (steelyardref01_Trim.f k (([(a0) % 4294967296, (a0 / 4294967296) % 4294967296] : List Int))).bind fun t689 => (some t689)
theorem steelyardref01_Of.mono : ∀ a0 k, LeO (steelyardref01_Of.f k a0) (steelyardref01_Of.f (k + 1) a0) := by
  intro a0 k
  unfold steelyardref01_Of.f
  repeat' first
   | with_reducible first
    | exact steelyardref01_Trim.mono _ _
    | exact LeO.refl _
    | exact LeO.none _
    | refine LeO.ite ?_ ?_
    | refine LeO.bind ?_ (fun _ => ?_)
   | exact LeO.none _ | refine LeO.ite ?_ ?_ | refine LeO.bind ?_ (fun _ => ?_)
end Go.Proofs.YtjgmmaeafodpmaaDoor.P
set_option linter.unusedVariables false
set_option linter.unusedSimpArgs false
namespace Go.Proofs.YtjgmmaeafodpmaaDoor.P
open Go.RowKit Go.Proofs.YtjgmmaeafodpmaaDoorW.PrintWords Go.Proofs.YtjgmmaeafodpmaaDoorW.PrintLast Go.Proofs.YtjgmmaeafodpmaaDoorW.PrintMore
def steelyardref02_Up.l0 : Nat → List Int → Int → List Int → Int → Int → Option (List Int)
  | 0, _, _, _, _, _ => none
  | k + 1, x0, x1, x5, x6, x7 => if x7 < (x0.length : Int) then (if 0 ≤ x7 then (if 0 ≤ (IntKind.u64.wrap (Int.tmod x1 32)) then (if x5.length < 35184372088832 then (steelyardref02_Up.l0 k x0 x1 (x5 ++ [(Go.bits .or .u64 x6 (shl .u64 (IntKind.u64.wrap (rd x0 x7)) (IntKind.u64.wrap (Int.tmod x1 32)))) % 4294967296]) ((Go.bits .or .u64 x6 (shl .u64 (IntKind.u64.wrap (rd x0 x7)) (IntKind.u64.wrap (Int.tmod x1 32)))) / 4294967296) (wrap64 (x7 + 1))) else (none)) else (none)) else (none)) else (if x5.length < 35184372088832 then ((steelyardref01_Trim.f k (x5 ++ [(x6) % 4294967296])).bind fun t127 => (some t127)) else (none))
def steelyardref02_Up.f (k : Nat) (l0 : List Int) (a1 : Int) : Option (List Int) := if 0 ≤ (wrap64 (Int.tdiv a1 32)) then (if (wrap64 (Int.tdiv a1 32)) ≤ (wrap64 ((wrap64 ((wrap64 (Int.tdiv a1 32)) + (l0.length : Int))) + 1)) then (if (wrap64 ((wrap64 ((wrap64 (Int.tdiv a1 32)) + (l0.length : Int))) + 1) : Int).toNat ≤ 70368744177664 then (steelyardref02_Up.l0 k l0 a1 (List.replicate (wrap64 (Int.tdiv a1 32) : Int).toNat 0) 0 0) else (none)) else (none)) else (none)
theorem steelyardref02_Up.mono_l : ∀ k, (∀ y0 y1 y2 y3 y4, LeO (steelyardref02_Up.l0 k y0 y1 y2 y3 y4) (steelyardref02_Up.l0 (k + 1) y0 y1 y2 y3 y4))
  | 0 => fun _ _ _ _ _ r h => by simp [steelyardref02_Up.l0] at h
  | k + 1 => by
    have ih0 := steelyardref02_Up.mono_l k
    · intro y0 y1 y2 y3 y4
      unfold steelyardref02_Up.l0
      repeat' first
       | with_reducible first
        | exact ih0 _ _ _ _ _
        | exact steelyardref01_Trim.mono _ _
        | exact LeO.refl _
        | exact LeO.none _
        | refine LeO.ite ?_ ?_
        | refine LeO.bind ?_ (fun _ => ?_)
       | exact LeO.none _ | refine LeO.ite ?_ ?_ | refine LeO.bind ?_ (fun _ => ?_)
theorem steelyardref02_Up.mono : ∀ a0 a1 k, LeO (steelyardref02_Up.f k a0 a1) (steelyardref02_Up.f (k + 1) a0 a1) := by
  intro a0 a1 k
  have ih0 := steelyardref02_Up.mono_l k
  unfold steelyardref02_Up.f
  repeat' first
   | with_reducible first
    | exact ih0 _ _ _ _ _
    | exact steelyardref01_Trim.mono _ _
    | exact LeO.refl _
    | exact LeO.none _
    | refine LeO.ite ?_ ?_
    | refine LeO.bind ?_ (fun _ => ?_)
   | exact LeO.none _ | refine LeO.ite ?_ ?_ | refine LeO.bind ?_ (fun _ => ?_)
def steelyardref02_Down.l0 : Nat → List Int → Int → List Int → Int → Option (List Int)
  | 0, _, _, _, _ => none
  | k + 1, x0, x1, x5, x6 => if x6 < (x0.length : Int) then (if 0 ≤ x6 then (if (wrap64 (x6 + 1)) < (x0.length : Int) then (if 0 ≤ (wrap64 (x6 + 1)) then (if 0 ≤ (IntKind.u64.wrap (Int.tmod x1 32)) then (if x5.length < 35184372088832 then (steelyardref02_Down.l0 k x0 x1 (x5 ++ [(shr .u64 (Go.bits .or .u64 (IntKind.u64.wrap (rd x0 x6)) (IntKind.u64.wrap ((IntKind.u64.wrap (rd x0 (wrap64 (x6 + 1)))) * 4294967296))) (IntKind.u64.wrap (Int.tmod x1 32))) % 4294967296]) (wrap64 (x6 + 1))) else (none)) else (none)) else (none)) else (if 0 ≤ (IntKind.u64.wrap (Int.tmod x1 32)) then (if x5.length < 35184372088832 then (steelyardref02_Down.l0 k x0 x1 (x5 ++ [(shr .u64 (IntKind.u64.wrap (rd x0 x6)) (IntKind.u64.wrap (Int.tmod x1 32))) % 4294967296]) (wrap64 (x6 + 1))) else (none)) else (none))) else (none)) else ((steelyardref01_Trim.f k x5).bind fun t156 => (some t156))
def steelyardref02_Down.f (k : Nat) (l0 : List Int) (a1 : Int) : Option (List Int) := steelyardref02_Down.l0 k l0 a1 ([] : List Int) (wrap64 (Int.tdiv a1 32))
theorem steelyardref02_Down.mono_l : ∀ k, (∀ y0 y1 y2 y3, LeO (steelyardref02_Down.l0 k y0 y1 y2 y3) (steelyardref02_Down.l0 (k + 1) y0 y1 y2 y3))
  | 0 => fun _ _ _ _ r h => by simp [steelyardref02_Down.l0] at h
  | k + 1 => by
    have ih0 := steelyardref02_Down.mono_l k
    · intro y0 y1 y2 y3
      unfold steelyardref02_Down.l0
      repeat' first
       | with_reducible first
        | exact ih0 _ _ _ _
        | exact steelyardref01_Trim.mono _ _
        | exact LeO.refl _
        | exact LeO.none _
        | refine LeO.ite ?_ ?_
        | refine LeO.bind ?_ (fun _ => ?_)
       | exact LeO.none _ | refine LeO.ite ?_ ?_ | refine LeO.bind ?_ (fun _ => ?_)
theorem steelyardref02_Down.mono : ∀ a0 a1 k, LeO (steelyardref02_Down.f k a0 a1) (steelyardref02_Down.f (k + 1) a0 a1) := by
  intro a0 a1 k
  have ih0 := steelyardref02_Down.mono_l k
  unfold steelyardref02_Down.f
  repeat' first
   | with_reducible first
    | exact ih0 _ _ _ _
    | exact steelyardref01_Trim.mono _ _
    | exact LeO.refl _
    | exact LeO.none _
    | refine LeO.ite ?_ ?_
    | refine LeO.bind ?_ (fun _ => ?_)
   | exact LeO.none _ | refine LeO.ite ?_ ?_ | refine LeO.bind ?_ (fun _ => ?_)
def steelyardref02_Small.l0 : Nat → List Int → Int → List Int → Int → Int → Option (List Int)
  | 0, _, _, _, _, _ => none
  | k + 1, x0, x1, x5, x6, x7 => if x7 < (x0.length : Int) then (if 0 ≤ x7 then (if x5.length < 35184372088832 then (steelyardref02_Small.l0 k x0 x1 (x5 ++ [(IntKind.u64.wrap (x6 + (IntKind.u64.wrap ((IntKind.u64.wrap (rd x0 x7)) * (IntKind.u64.wrap (x1)))))) % 4294967296]) ((IntKind.u64.wrap (x6 + (IntKind.u64.wrap ((IntKind.u64.wrap (rd x0 x7)) * (IntKind.u64.wrap (x1)))))) / 4294967296) (wrap64 (x7 + 1))) else (none)) else (none)) else (if x5.length < 35184372088832 then ((steelyardref01_Trim.f k (x5 ++ [(x6) % 4294967296])).bind fun t609 => (some t609)) else (none))
def steelyardref02_Small.f (k : Nat) (l0 : List Int) (a1 : Int) : Option (List Int) := steelyardref02_Small.l0 k l0 a1 ([] : List Int) 0 0
theorem steelyardref02_Small.mono_l : ∀ k, (∀ y0 y1 y2 y3 y4, LeO (steelyardref02_Small.l0 k y0 y1 y2 y3 y4) (steelyardref02_Small.l0 (k + 1) y0 y1 y2 y3 y4))
  | 0 => fun _ _ _ _ _ r h => by simp [steelyardref02_Small.l0] at h
  | k + 1 => by
    have ih0 := steelyardref02_Small.mono_l k
    · intro y0 y1 y2 y3 y4
      unfold steelyardref02_Small.l0
      repeat' first
       | with_reducible first
        | exact ih0 _ _ _ _ _
        | exact steelyardref01_Trim.mono _ _
        | exact LeO.refl _
        | exact LeO.none _
        | refine LeO.ite ?_ ?_
        | refine LeO.bind ?_ (fun _ => ?_)
       | exact LeO.none _ | refine LeO.ite ?_ ?_ | refine LeO.bind ?_ (fun _ => ?_)
theorem steelyardref02_Small.mono : ∀ a0 a1 k, LeO (steelyardref02_Small.f k a0 a1) (steelyardref02_Small.f (k + 1) a0 a1) := by
  intro a0 a1 k
  have ih0 := steelyardref02_Small.mono_l k
  unfold steelyardref02_Small.f
  repeat' first
   | with_reducible first
    | exact ih0 _ _ _ _ _
    | exact steelyardref01_Trim.mono _ _
    | exact LeO.refl _
    | exact LeO.none _
    | refine LeO.ite ?_ ?_
    | refine LeO.bind ?_ (fun _ => ?_)
   | exact LeO.none _ | refine LeO.ite ?_ ?_ | refine LeO.bind ?_ (fun _ => ?_)
def steelyardref02_Of.l0 : Nat → List Int → List Int → List Int → Int → Option (List Int)
  | 0, _, _, _, _ => none
  | k + 1, x0, x1, x5, x6 => if x6 < (x1.length : Int) then (if 0 ≤ x6 then ((steelyardref02_Small.f k x0 (rd x1 x6)).bind fun t613 => ((steelyardref02_Up.f k t613 (wrap64 (32 * x6))).bind fun t616 => ((steelyardref01_Add.f k x5 t616).bind fun t619 => (steelyardref02_Of.l0 k x0 x1 t619 (wrap64 (x6 + 1)))))) else (none)) else ((steelyardref01_Trim.f k x5).bind fun t622 => (some t622))
def steelyardref02_Of.f (k : Nat) (l0 : List Int) (l1 : List Int) : Option (List Int) := steelyardref02_Of.l0 k l0 l1 ([] : List Int) 0
theorem steelyardref02_Of.mono_l : ∀ k, (∀ y0 y1 y2 y3, LeO (steelyardref02_Of.l0 k y0 y1 y2 y3) (steelyardref02_Of.l0 (k + 1) y0 y1 y2 y3))
  | 0 => fun _ _ _ _ r h => by simp [steelyardref02_Of.l0] at h
  | k + 1 => by
    have ih0 := steelyardref02_Of.mono_l k
    · intro y0 y1 y2 y3
      unfold steelyardref02_Of.l0
      repeat' first
       | with_reducible first
        | exact ih0 _ _ _ _
        | exact steelyardref01_Add.mono _ _ _
        | exact steelyardref01_Trim.mono _ _
        | exact steelyardref02_Small.mono _ _ _
        | exact steelyardref02_Up.mono _ _ _
        | exact LeO.refl _
        | exact LeO.none _
        | refine LeO.ite ?_ ?_
        | refine LeO.bind ?_ (fun _ => ?_)
       | exact LeO.none _ | refine LeO.ite ?_ ?_ | refine LeO.bind ?_ (fun _ => ?_)
theorem steelyardref02_Of.mono : ∀ a0 a1 k, LeO (steelyardref02_Of.f k a0 a1) (steelyardref02_Of.f (k + 1) a0 a1) := by
  intro a0 a1 k
  have ih0 := steelyardref02_Of.mono_l k
  unfold steelyardref02_Of.f
  repeat' first
   | with_reducible first
    | exact ih0 _ _ _ _
    | exact steelyardref01_Add.mono _ _ _
    | exact steelyardref01_Trim.mono _ _
    | exact steelyardref02_Small.mono _ _ _
    | exact steelyardref02_Up.mono _ _ _
    | exact LeO.refl _
    | exact LeO.none _
    | refine LeO.ite ?_ ?_
    | refine LeO.bind ?_ (fun _ => ?_)
   | exact LeO.none _ | refine LeO.ite ?_ ?_ | refine LeO.bind ?_ (fun _ => ?_)
end Go.Proofs.YtjgmmaeafodpmaaDoor.P
set_option linter.unusedVariables false
set_option linter.unusedSimpArgs false
namespace Go.Proofs.YtjgmmaeafodpmaaDoor.P
open Go.RowKit Go.Proofs.YtjgmmaeafodpmaaDoorW.PrintWords Go.Proofs.YtjgmmaeafodpmaaDoorW.PrintLast Go.Proofs.YtjgmmaeafodpmaaDoorW.PrintMore
def steelyardref03_Rem.l0 : Nat → List Int → List Int → List Int → Int → Option (List Int × List Int × Bool)
  | 0, _, _, _, _ => none
  | k + 1, x5, x7, x8, x9 => if x9 ≥ 0 then ((steelyardref01_Cmp.f k x5 x8).bind fun t175 => (if t175 ≥ 0 then ((steelyardref01_Sub.f k x5 x8).bind fun t176 => (if 0 ≤ (wrap64 (Int.tdiv x9 32)) then (if (wrap64 (Int.tdiv x9 32)) < (x7.length : Int) then (if 0 ≤ (IntKind.u64.wrap (Int.tmod x9 32)) then ((steelyardref02_Down.f k x8 1).bind fun t181 => (steelyardref03_Rem.l0 k t176 (x7.set ((wrap64 (Int.tdiv x9 32)) : Int).toNat (Go.bits .or .u32 (rd x7 (wrap64 (Int.tdiv x9 32))) (shl .u32 1 (IntKind.u64.wrap (Int.tmod x9 32))))) t181 (wrap64 (x9 - 1)))) else (none)) else (none)) else (none))) else ((steelyardref02_Down.f k x8 1).bind fun t184 => (steelyardref03_Rem.l0 k x5 x7 t184 (wrap64 (x9 - 1)))))) else ((steelyardref01_Trim.f k x7).bind fun t172 => (some (t172, x5, true)))
def steelyardref03_Rem.f (k : Nat) (l0 : List Int) (l1 : List Int) : Option (List Int × List Int × Bool) := (steelyardref01_Bits.f k l1).bind fun t160 => (if t160 = 0 then (some (([] : List Int), ([] : List Int), false)) else ((steelyardref01_Trim.f k l0).bind fun t161 => ((steelyardref01_Bits.f k l0).bind fun t164 => ((steelyardref01_Bits.f k l1).bind fun t165 => (if 0 ≤ (wrap64 ((wrap64 (Int.tdiv (mx 0 (wrap64 (t164 - t165))) 32)) + 1)) then (if (wrap64 ((wrap64 (Int.tdiv (mx 0 (wrap64 (t164 - t165))) 32)) + 1) : Int).toNat ≤ 70368744177664 then ((steelyardref02_Up.f k l1 (mx 0 (wrap64 (t164 - t165)))).bind fun t169 => (steelyardref03_Rem.l0 k t161 (List.replicate (wrap64 ((wrap64 (Int.tdiv (mx 0 (wrap64 (t164 - t165))) 32)) + 1) : Int).toNat 0) t169 (mx 0 (wrap64 (t164 - t165))))) else (none)) else (none))))))
theorem steelyardref03_Rem.mono_l : ∀ k, (∀ y0 y1 y2 y3, LeO (steelyardref03_Rem.l0 k y0 y1 y2 y3) (steelyardref03_Rem.l0 (k + 1) y0 y1 y2 y3))
  | 0 => fun _ _ _ _ r h => by simp [steelyardref03_Rem.l0] at h
  | k + 1 => by
    have ih0 := steelyardref03_Rem.mono_l k
    · intro y0 y1 y2 y3
      unfold steelyardref03_Rem.l0
      repeat' first
       | with_reducible first
        | exact ih0 _ _ _ _
        | exact steelyardref01_Bits.mono _ _
        | exact steelyardref01_Cmp.mono _ _ _
        | exact steelyardref01_Sub.mono _ _ _
        | exact steelyardref01_Trim.mono _ _
        | exact steelyardref02_Down.mono _ _ _
        | exact steelyardref02_Up.mono _ _ _
        | exact LeO.refl _
        | exact LeO.none _
        | refine LeO.ite ?_ ?_
        | refine LeO.bind ?_ (fun _ => ?_)
       | exact LeO.none _ | refine LeO.ite ?_ ?_ | refine LeO.bind ?_ (fun _ => ?_)
theorem steelyardref03_Rem.mono : ∀ a0 a1 k, LeO (steelyardref03_Rem.f k a0 a1) (steelyardref03_Rem.f (k + 1) a0 a1) := by
  intro a0 a1 k
  have ih0 := steelyardref03_Rem.mono_l k
  unfold steelyardref03_Rem.f
  repeat' first
   | with_reducible first
    | exact ih0 _ _ _ _
    | exact steelyardref01_Bits.mono _ _
    | exact steelyardref01_Cmp.mono _ _ _
    | exact steelyardref01_Sub.mono _ _ _
    | exact steelyardref01_Trim.mono _ _
    | exact steelyardref02_Down.mono _ _ _
    | exact steelyardref02_Up.mono _ _ _
    | exact LeO.refl _
    | exact LeO.none _
    | refine LeO.ite ?_ ?_
    | refine LeO.bind ?_ (fun _ => ?_)
   | exact LeO.none _ | refine LeO.ite ?_ ?_ | refine LeO.bind ?_ (fun _ => ?_)
def steelyardref03_Gcd.l0 : Nat → List Int → List Int → Option (List Int)
  | 0, _, _ => none
  | k + 1, x5, x6 => if (x6.length : Int) > 0 then ((steelyardref03_Rem.f k x5 x6).bind fun bt193 => (steelyardref03_Gcd.l0 k x6 bt193.2.1)) else (some x5)
def steelyardref03_Gcd.f (k : Nat) (l0 : List Int) (l1 : List Int) : Option (List Int) := (steelyardref01_Trim.f k l0).bind fun t187 => ((steelyardref01_Trim.f k l1).bind fun t190 => (steelyardref03_Gcd.l0 k t187 t190))
theorem steelyardref03_Gcd.mono_l : ∀ k, (∀ y0 y1, LeO (steelyardref03_Gcd.l0 k y0 y1) (steelyardref03_Gcd.l0 (k + 1) y0 y1))
  | 0 => fun _ _ r h => by simp [steelyardref03_Gcd.l0] at h
  | k + 1 => by
    have ih0 := steelyardref03_Gcd.mono_l k
    · intro y0 y1
      unfold steelyardref03_Gcd.l0
      repeat' first
       | with_reducible first
        | exact ih0 _ _
        | exact steelyardref01_Trim.mono _ _
        | exact steelyardref03_Rem.mono _ _ _
        | exact LeO.refl _
        | exact LeO.none _
        | refine LeO.ite ?_ ?_
        | refine LeO.bind ?_ (fun _ => ?_)
       | exact LeO.none _ | refine LeO.ite ?_ ?_ | refine LeO.bind ?_ (fun _ => ?_)
theorem steelyardref03_Gcd.mono : ∀ a0 a1 k, LeO (steelyardref03_Gcd.f k a0 a1) (steelyardref03_Gcd.f (k + 1) a0 a1) := by
  intro a0 a1 k
  have ih0 := steelyardref03_Gcd.mono_l k
  unfold steelyardref03_Gcd.f
  repeat' first
   | with_reducible first
    | exact ih0 _ _
    | exact steelyardref01_Trim.mono _ _
    | exact steelyardref03_Rem.mono _ _ _
    | exact LeO.refl _
    | exact LeO.none _
    | refine LeO.ite ?_ ?_
    | refine LeO.bind ?_ (fun _ => ?_)
   | exact LeO.none _ | refine LeO.ite ?_ ?_ | refine LeO.bind ?_ (fun _ => ?_)
end Go.Proofs.YtjgmmaeafodpmaaDoor.P
set_option linter.unusedVariables false
set_option linter.unusedSimpArgs false
namespace Go.Proofs.YtjgmmaeafodpmaaDoor.P
open Go.RowKit Go.Proofs.YtjgmmaeafodpmaaDoorW.PrintWords Go.Proofs.YtjgmmaeafodpmaaDoorW.PrintLast Go.Proofs.YtjgmmaeafodpmaaDoorW.PrintMore
def steelyardref06_Make.f (k : Nat) (a0 : Bool) (l1 : List Int) : Option (Bool × List Int) := (steelyardref01_Trim.f k l1).bind fun t557 => (if a0 = true then (some (decide ((t557.length : Int) > 0), t557)) else (some (false, t557)))
theorem steelyardref06_Make.mono : ∀ a0 a1 k, LeO (steelyardref06_Make.f k a0 a1) (steelyardref06_Make.f (k + 1) a0 a1) := by
  intro a0 a1 k
  unfold steelyardref06_Make.f
  repeat' first
   | with_reducible first
    | exact steelyardref01_Trim.mono _ _
    | exact LeO.refl _
    | exact LeO.none _
    | refine LeO.ite ?_ ?_
    | refine LeO.bind ?_ (fun _ => ?_)
   | exact LeO.none _ | refine LeO.ite ?_ ?_ | refine LeO.bind ?_ (fun _ => ?_)
def steelyardref06_Trim.f (k : Nat) (a0_0 : Bool) (l0_1 : List Int) : Option (Bool × List Int) := (steelyardref06_Make.f k a0_0 l0_1).bind fun bt562 => (some (bt562.1, bt562.2))
theorem steelyardref06_Trim.mono : ∀ a0 a1 k, LeO (steelyardref06_Trim.f k a0 a1) (steelyardref06_Trim.f (k + 1) a0 a1) := by
  intro a0 a1 k
  unfold steelyardref06_Trim.f
  repeat' first
   | with_reducible first
    | exact steelyardref06_Make.mono _ _ _
    | exact LeO.refl _
    | exact LeO.none _
    | refine LeO.ite ?_ ?_
    | refine LeO.bind ?_ (fun _ => ?_)
   | exact LeO.none _ | refine LeO.ite ?_ ?_ | refine LeO.bind ?_ (fun _ => ?_)
def steelyardref06_Mul.f (k : Nat) (a0_0 : Bool) (l0_1 : List Int) (a1_0 : Bool) (l1_1 : List Int) : Option (Bool × List Int) := (steelyardref06_Trim.f k a0_0 l0_1).bind fun bt628 => ((steelyardref06_Trim.f k a1_0 l1_1).bind fun bt632 => ((steelyardref02_Of.f k l0_1 l1_1).bind fun t636 => ((steelyardref06_Make.f k (bt628.1 != bt632.1) t636).bind fun bt639 => (some (bt639.1, bt639.2)))))
theorem steelyardref06_Mul.mono : ∀ a0 a1 a2 a3 k, LeO (steelyardref06_Mul.f k a0 a1 a2 a3) (steelyardref06_Mul.f (k + 1) a0 a1 a2 a3) := by
  intro a0 a1 a2 a3 k
  unfold steelyardref06_Mul.f
  repeat' first
   | with_reducible first
    | exact steelyardref02_Of.mono _ _ _
    | exact steelyardref06_Make.mono _ _ _
    | exact steelyardref06_Trim.mono _ _ _
    | exact LeO.refl _
    | exact LeO.none _
    | refine LeO.ite ?_ ?_
    | refine LeO.bind ?_ (fun _ => ?_)
   | exact LeO.none _ | refine LeO.ite ?_ ?_ | refine LeO.bind ?_ (fun _ => ?_)
def steelyardref06_Of.f (k : Nat) (a0 : Int) : Option (Bool × List Int) := if a0 < 0 then ((steelyardref01_Of.f k (IntKind.u64.wrap ((IntKind.u64.wrap (wrap64 (-(wrap64 (a0 + 1))))) + 1))).bind fun t693 => ((steelyardref06_Make.f k true t693).bind fun bt696 => (some (bt696.1, bt696.2)))) else ((steelyardref01_Of.f k (IntKind.u64.wrap (a0))).bind fun t700 => ((steelyardref06_Make.f k false t700).bind fun bt703 => (some (bt703.1, bt703.2))))
theorem steelyardref06_Of.mono : ∀ a0 k, LeO (steelyardref06_Of.f k a0) (steelyardref06_Of.f (k + 1) a0) := by
  intro a0 k
  unfold steelyardref06_Of.f
  repeat' first
   | with_reducible first
    | exact steelyardref01_Of.mono _ _
    | exact steelyardref06_Make.mono _ _ _
    | exact LeO.refl _
    | exact LeO.none _
    | refine LeO.ite ?_ ?_
    | refine LeO.bind ?_ (fun _ => ?_)
   | exact LeO.none _ | refine LeO.ite ?_ ?_ | refine LeO.bind ?_ (fun _ => ?_)
def steelyardref06_Add.f (k : Nat) (a0_0 : Bool) (l0_1 : List Int) (a1_0 : Bool) (l1_1 : List Int) : Option (Bool × List Int) := (steelyardref06_Trim.f k a0_0 l0_1).bind fun bt1029 => ((steelyardref06_Trim.f k a1_0 l1_1).bind fun bt1033 => (if (bt1029.1 == bt1033.1) = true then ((steelyardref01_Add.f k bt1029.2 bt1033.2).bind fun t1039 => ((steelyardref06_Make.f k bt1029.1 t1039).bind fun bt1042 => (some (bt1042.1, bt1042.2)))) else ((steelyardref01_Cmp.f k bt1029.2 bt1033.2).bind fun t1046 => (if t1046 ≥ 0 then ((steelyardref01_Sub.f k bt1029.2 bt1033.2).bind fun t1047 => ((steelyardref06_Make.f k bt1029.1 t1047).bind fun bt1050 => (some (bt1050.1, bt1050.2)))) else ((steelyardref01_Sub.f k bt1033.2 bt1029.2).bind fun t1054 => ((steelyardref06_Make.f k bt1033.1 t1054).bind fun bt1057 => (some (bt1057.1, bt1057.2))))))))
theorem steelyardref06_Add.mono : ∀ a0 a1 a2 a3 k, LeO (steelyardref06_Add.f k a0 a1 a2 a3) (steelyardref06_Add.f (k + 1) a0 a1 a2 a3) := by
  intro a0 a1 a2 a3 k
  unfold steelyardref06_Add.f
  repeat' first
   | with_reducible first
    | exact steelyardref01_Add.mono _ _ _
    | exact steelyardref01_Cmp.mono _ _ _
    | exact steelyardref01_Sub.mono _ _ _
    | exact steelyardref06_Make.mono _ _ _
    | exact steelyardref06_Trim.mono _ _ _
    | exact LeO.refl _
    | exact LeO.none _
    | refine LeO.ite ?_ ?_
    | refine LeO.bind ?_ (fun _ => ?_)
   | exact LeO.none _ | refine LeO.ite ?_ ?_ | refine LeO.bind ?_ (fun _ => ?_)
def steelyardref06_Neg.f (k : Nat) (a0_0 : Bool) (l0_1 : List Int) : Option (Bool × List Int) := (steelyardref06_Make.f k (!a0_0) l0_1).bind fun bt1101 => (some (bt1101.1, bt1101.2))
theorem steelyardref06_Neg.mono : ∀ a0 a1 k, LeO (steelyardref06_Neg.f k a0 a1) (steelyardref06_Neg.f (k + 1) a0 a1) := by
  intro a0 a1 k
  unfold steelyardref06_Neg.f
  repeat' first
   | with_reducible first
    | exact steelyardref06_Make.mono _ _ _
    | exact LeO.refl _
    | exact LeO.none _
    | refine LeO.ite ?_ ?_
    | refine LeO.bind ?_ (fun _ => ?_)
   | exact LeO.none _ | refine LeO.ite ?_ ?_ | refine LeO.bind ?_ (fun _ => ?_)
mutual
def steelyardref06_Cmp.j0 : Nat → Bool → Bool → List Int → Bool → List Int → Option (Int)
  | 0, _, _, _, _, _ => none
  | k + 1, x11, x1126000, x1126001, x1127000, x1127001 => if x11 = true then (some (-1)) else (if x1126000 = true then (steelyardref06_Cmp.j1 k false x1126000 x1126001 x1127000 x1127001) else (steelyardref06_Cmp.j1 k x1127000 x1126000 x1126001 x1127000 x1127001))
def steelyardref06_Cmp.j1 : Nat → Bool → Bool → List Int → Bool → List Int → Option (Int)
  | 0, _, _, _, _, _ => none
  | k + 1, x19, x1126000, x1126001, x1127000, x1127001 => if x19 = true then (some 1) else (if x1126000 = true then ((steelyardref01_Cmp.f k x1127001 x1126001).bind fun t1127 => (some t1127)) else ((steelyardref01_Cmp.f k x1126001 x1127001).bind fun t1128 => (some t1128)))
end
def steelyardref06_Cmp.f (k : Nat) (a0_0 : Bool) (l0_1 : List Int) (a1_0 : Bool) (l1_1 : List Int) : Option (Int) := (steelyardref06_Trim.f k a0_0 l0_1).bind fun bt1117 => ((steelyardref06_Trim.f k a1_0 l1_1).bind fun bt1121 => (if bt1117.1 = true then (steelyardref06_Cmp.j0 k (!bt1121.1) bt1117.1 bt1117.2 bt1121.1 bt1121.2) else (steelyardref06_Cmp.j0 k false bt1117.1 bt1117.2 bt1121.1 bt1121.2)))
theorem steelyardref06_Cmp.mono_l : ∀ k, (∀ y0 y1 y2 y3 y4, LeO (steelyardref06_Cmp.j0 k y0 y1 y2 y3 y4) (steelyardref06_Cmp.j0 (k + 1) y0 y1 y2 y3 y4)) ∧ (∀ y0 y1 y2 y3 y4, LeO (steelyardref06_Cmp.j1 k y0 y1 y2 y3 y4) (steelyardref06_Cmp.j1 (k + 1) y0 y1 y2 y3 y4))
  | 0 => ⟨fun _ _ _ _ _ r h => by simp [steelyardref06_Cmp.j0] at h, fun _ _ _ _ _ r h => by simp [steelyardref06_Cmp.j1] at h⟩
  | k + 1 => by
    obtain ⟨ih0, ih1⟩ := steelyardref06_Cmp.mono_l k
    refine ⟨?_, ?_⟩
    · intro y0 y1 y2 y3 y4
      unfold steelyardref06_Cmp.j0
      repeat' first
       | with_reducible first
        | exact ih0 _ _ _ _ _
        | exact ih1 _ _ _ _ _
        | exact steelyardref01_Cmp.mono _ _ _
        | exact steelyardref06_Trim.mono _ _ _
        | exact LeO.refl _
        | exact LeO.none _
        | refine LeO.ite ?_ ?_
        | refine LeO.bind ?_ (fun _ => ?_)
       | exact LeO.none _ | refine LeO.ite ?_ ?_ | refine LeO.bind ?_ (fun _ => ?_)
    · intro y0 y1 y2 y3 y4
      unfold steelyardref06_Cmp.j1
      repeat' first
       | with_reducible first
        | exact ih0 _ _ _ _ _
        | exact ih1 _ _ _ _ _
        | exact steelyardref01_Cmp.mono _ _ _
        | exact steelyardref06_Trim.mono _ _ _
        | exact LeO.refl _
        | exact LeO.none _
        | refine LeO.ite ?_ ?_
        | refine LeO.bind ?_ (fun _ => ?_)
       | exact LeO.none _ | refine LeO.ite ?_ ?_ | refine LeO.bind ?_ (fun _ => ?_)
theorem steelyardref06_Cmp.mono : ∀ a0 a1 a2 a3 k, LeO (steelyardref06_Cmp.f k a0 a1 a2 a3) (steelyardref06_Cmp.f (k + 1) a0 a1 a2 a3) := by
  intro a0 a1 a2 a3 k
  obtain ⟨ih0, ih1⟩ := steelyardref06_Cmp.mono_l k
  unfold steelyardref06_Cmp.f
  repeat' first
   | with_reducible first
    | exact ih0 _ _ _ _ _
    | exact ih1 _ _ _ _ _
    | exact steelyardref01_Cmp.mono _ _ _
    | exact steelyardref06_Trim.mono _ _ _
    | exact LeO.refl _
    | exact LeO.none _
    | refine LeO.ite ?_ ?_
    | refine LeO.bind ?_ (fun _ => ?_)
   | exact LeO.none _ | refine LeO.ite ?_ ?_ | refine LeO.bind ?_ (fun _ => ?_)
end Go.Proofs.YtjgmmaeafodpmaaDoor.P
set_option linter.unusedVariables false
set_option linter.unusedSimpArgs false
namespace Go.Proofs.YtjgmmaeafodpmaaDoor.P
open Go.RowKit Go.Proofs.YtjgmmaeafodpmaaDoorW.PrintWords Go.Proofs.YtjgmmaeafodpmaaDoorW.PrintLast Go.Proofs.YtjgmmaeafodpmaaDoorW.PrintMore
def steelyardref07_trimmed.f (l0 : List Int) : Option (Bool) := if (l0.length : Int) = 0 then (some true) else (if 0 ≤ (wrap64 ((l0.length : Int) - 1)) then (if (wrap64 ((l0.length : Int) - 1)) < (l0.length : Int) then (some ((rd l0 (wrap64 ((l0.length : Int) - 1))) != 0)) else (none)) else (none))
def steelyardref07_Good.f (k : Nat) (a0_0 : Bool) (l0_1 : List Int) (l0_2 : List Int) : Option (Bool) := (steelyardref07_trimmed.f l0_1).bind fun t201 => (if t201 = true then ((steelyardref07_trimmed.f l0_2).bind fun t202 => (if t202 = true then (if (l0_2.length : Int) = 0 then (some false) else (if a0_0 = true then (if (l0_1.length : Int) = 0 then (some false) else (if (l0_1.length : Int) > 64 then (some false) else (if (l0_2.length : Int) > 64 then (some false) else ((steelyardref03_Gcd.f k l0_1 l0_2).bind fun t203 => (if (t203.length : Int) = 1 then (if 0 < (t203.length : Int) then (some ((rd t203 0) == 1)) else (none)) else (some false)))))) else (if (l0_1.length : Int) > 64 then (some false) else (if (l0_2.length : Int) > 64 then (some false) else ((steelyardref03_Gcd.f k l0_1 l0_2).bind fun t207 => (if (t207.length : Int) = 1 then (if 0 < (t207.length : Int) then (some ((rd t207 0) == 1)) else (none)) else (some false))))))) else (some false))) else (some false))
theorem steelyardref07_Good.mono : ∀ a0 a1 a2 k, LeO (steelyardref07_Good.f k a0 a1 a2) (steelyardref07_Good.f (k + 1) a0 a1 a2) := by
  intro a0 a1 a2 k
  unfold steelyardref07_Good.f
  repeat' first
   | with_reducible first
    | exact steelyardref03_Gcd.mono _ _ _
    | exact LeO.refl _
    | exact LeO.none _
    | refine LeO.ite ?_ ?_
    | refine LeO.bind ?_ (fun _ => ?_)
   | exact LeO.none _ | refine LeO.ite ?_ ?_ | refine LeO.bind ?_ (fun _ => ?_)
def steelyardref07_Wide.f (k : Nat) (a0_0 : Bool) (l0_1 : List Int) (l1 : List Int) : Option (Bool × List Int × List Int) := (steelyardref06_Trim.f k a0_0 l0_1).bind fun bt568 => ((steelyardref03_Gcd.f k bt568.2 l1).bind fun t573 => ((steelyardref03_Rem.f k bt568.2 t573).bind fun bt576 => ((steelyardref06_Make.f k bt568.1 bt576.1).bind fun bt583 => ((steelyardref03_Rem.f k l1 t573).bind fun bt587 => (some (bt583.1, bt583.2, bt587.1))))))
theorem steelyardref07_Wide.mono : ∀ a0 a1 a2 k, LeO (steelyardref07_Wide.f k a0 a1 a2) (steelyardref07_Wide.f (k + 1) a0 a1 a2) := by
  intro a0 a1 a2 k
  unfold steelyardref07_Wide.f
  repeat' first
   | with_reducible first
    | exact steelyardref03_Gcd.mono _ _ _
    | exact steelyardref03_Rem.mono _ _ _
    | exact steelyardref06_Make.mono _ _ _
    | exact steelyardref06_Trim.mono _ _ _
    | exact LeO.refl _
    | exact LeO.none _
    | refine LeO.ite ?_ ?_
    | refine LeO.bind ?_ (fun _ => ?_)
   | exact LeO.none _ | refine LeO.ite ?_ ?_ | refine LeO.bind ?_ (fun _ => ?_)
def steelyardref07_Times.f (k : Nat) (a0_0 : Bool) (l0_1 : List Int) (l0_2 : List Int) (a1_0 : Bool) (l1_1 : List Int) (l1_2 : List Int) : Option (Bool × List Int × List Int) := (steelyardref06_Mul.f k a0_0 l0_1 a1_0 l1_1).bind fun bt646 => ((steelyardref02_Of.f k l0_2 l1_2).bind fun t650 => ((steelyardref07_Wide.f k bt646.1 bt646.2 t650).bind fun bt653 => (some (bt653.1, bt653.2.1, bt653.2.2))))
theorem steelyardref07_Times.mono : ∀ a0 a1 a2 a3 a4 a5 k, LeO (steelyardref07_Times.f k a0 a1 a2 a3 a4 a5) (steelyardref07_Times.f (k + 1) a0 a1 a2 a3 a4 a5) := by
  intro a0 a1 a2 a3 a4 a5 k
  unfold steelyardref07_Times.f
  repeat' first
   | with_reducible first
    | exact steelyardref02_Of.mono _ _ _
    | exact steelyardref06_Mul.mono _ _ _ _ _
    | exact steelyardref07_Wide.mono _ _ _ _
    | exact LeO.refl _
    | exact LeO.none _
    | refine LeO.ite ?_ ?_
    | refine LeO.bind ?_ (fun _ => ?_)
   | exact LeO.none _ | refine LeO.ite ?_ ?_ | refine LeO.bind ?_ (fun _ => ?_)
def steelyardref07_Limit.f (a0_0 : Bool) (l0_1 : List Int) (l0_2 : List Int) : Option (Bool × List Int × List Int × Int) := if (l0_1.length : Int) > 64 then (some (false, ([] : List Int), ([] : List Int), 2)) else (if (l0_2.length : Int) > 64 then (some (false, ([] : List Int), ([] : List Int), 2)) else (some (a0_0, l0_1, l0_2, 0)))
def steelyardref07_Div.j0 : Nat → Bool → Bool → List Int → List Int → Bool → List Int → List Int → Option (Bool × List Int × List Int × Int)
  | 0, _, _, _, _, _, _, _ => none
  | k + 1, x12, x663000, x663001, x663002, x664000, x664001, x664002 => if x12 = true then (some (false, ([] : List Int), ([] : List Int), 1)) else (if (x664001.length : Int) = 0 then (some (false, ([] : List Int), ([] : List Int), 3)) else ((steelyardref06_Make.f k x664000 x664002).bind fun bt667 => ((steelyardref07_Times.f k x663000 x663001 x663002 bt667.1 bt667.2 x664001).bind fun bt671 => ((steelyardref07_Limit.f bt671.1 bt671.2.1 bt671.2.2).bind fun bt678 => (some (bt678.1, bt678.2.1, bt678.2.2.1, bt678.2.2.2))))))
def steelyardref07_Div.f (k : Nat) (a0_0 : Bool) (l0_1 : List Int) (l0_2 : List Int) (a1_0 : Bool) (l1_1 : List Int) (l1_2 : List Int) : Option (Bool × List Int × List Int × Int) := (steelyardref07_Good.f k a0_0 l0_1 l0_2).bind fun t665 => (if t665 = true then ((steelyardref07_Good.f k a1_0 l1_1 l1_2).bind fun t666 => (steelyardref07_Div.j0 k (!t666) a0_0 l0_1 l0_2 a1_0 l1_1 l1_2)) else (steelyardref07_Div.j0 k true a0_0 l0_1 l0_2 a1_0 l1_1 l1_2))
theorem steelyardref07_Div.mono_l : ∀ k, (∀ y0 y1 y2 y3 y4 y5 y6, LeO (steelyardref07_Div.j0 k y0 y1 y2 y3 y4 y5 y6) (steelyardref07_Div.j0 (k + 1) y0 y1 y2 y3 y4 y5 y6))
  | 0 => fun _ _ _ _ _ _ _ r h => by simp [steelyardref07_Div.j0] at h
  | k + 1 => by
    have ih0 := steelyardref07_Div.mono_l k
    · intro y0 y1 y2 y3 y4 y5 y6
      unfold steelyardref07_Div.j0
      repeat' first
       | with_reducible first
        | exact ih0 _ _ _ _ _ _ _
        | exact steelyardref06_Make.mono _ _ _
        | exact steelyardref07_Good.mono _ _ _ _
        | exact steelyardref07_Times.mono _ _ _ _ _ _ _
        | exact LeO.refl _
        | exact LeO.none _
        | refine LeO.ite ?_ ?_
        | refine LeO.bind ?_ (fun _ => ?_)
       | exact LeO.none _ | refine LeO.ite ?_ ?_ | refine LeO.bind ?_ (fun _ => ?_)
theorem steelyardref07_Div.mono : ∀ a0 a1 a2 a3 a4 a5 k, LeO (steelyardref07_Div.f k a0 a1 a2 a3 a4 a5) (steelyardref07_Div.f (k + 1) a0 a1 a2 a3 a4 a5) := by
  intro a0 a1 a2 a3 a4 a5 k
  have ih0 := steelyardref07_Div.mono_l k
  unfold steelyardref07_Div.f
  repeat' first
   | with_reducible first
    | exact ih0 _ _ _ _ _ _ _
    | exact steelyardref06_Make.mono _ _ _
    | exact steelyardref07_Good.mono _ _ _ _
    | exact steelyardref07_Times.mono _ _ _ _ _ _ _
    | exact LeO.refl _
    | exact LeO.none _
    | refine LeO.ite ?_ ?_
    | refine LeO.bind ?_ (fun _ => ?_)
   | exact LeO.none _ | refine LeO.ite ?_ ?_ | refine LeO.bind ?_ (fun _ => ?_)
def steelyardref07_Whole.f (k : Nat) (a0 : Int) : Option (Bool × List Int × List Int) := (steelyardref06_Of.f k a0).bind fun bt708 => (some (bt708.1, bt708.2, (([1] : List Int))))
theorem steelyardref07_Whole.mono : ∀ a0 k, LeO (steelyardref07_Whole.f k a0) (steelyardref07_Whole.f (k + 1) a0) := by
  intro a0 k
  unfold steelyardref07_Whole.f
  repeat' first
   | with_reducible first
    | exact steelyardref06_Of.mono _ _
    | exact LeO.refl _
    | exact LeO.none _
    | refine LeO.ite ?_ ?_
    | refine LeO.bind ?_ (fun _ => ?_)
   | exact LeO.none _ | refine LeO.ite ?_ ?_ | refine LeO.bind ?_ (fun _ => ?_)
def steelyardref07_pos.f (k : Nat) (l0 : List Int) : Option (Bool × List Int) := (steelyardref06_Make.f k false l0).bind fun bt1062 => (some (bt1062.1, bt1062.2))
theorem steelyardref07_pos.mono : ∀ a0 k, LeO (steelyardref07_pos.f k a0) (steelyardref07_pos.f (k + 1) a0) := by
  intro a0 k
  unfold steelyardref07_pos.f
  repeat' first
   | with_reducible first
    | exact steelyardref06_Make.mono _ _ _
    | exact LeO.refl _
    | exact LeO.none _
    | refine LeO.ite ?_ ?_
    | refine LeO.bind ?_ (fun _ => ?_)
   | exact LeO.none _ | refine LeO.ite ?_ ?_ | refine LeO.bind ?_ (fun _ => ?_)
def steelyardref07_Plus.f (k : Nat) (a0_0 : Bool) (l0_1 : List Int) (l0_2 : List Int) (a1_0 : Bool) (l1_1 : List Int) (l1_2 : List Int) : Option (Bool × List Int × List Int) := (steelyardref07_pos.f k l1_2).bind fun bt1069 => ((steelyardref06_Mul.f k a0_0 l0_1 bt1069.1 bt1069.2).bind fun bt1073 => ((steelyardref07_pos.f k l0_2).bind fun bt1077 => ((steelyardref06_Mul.f k a1_0 l1_1 bt1077.1 bt1077.2).bind fun bt1081 => ((steelyardref06_Add.f k bt1073.1 bt1073.2 bt1081.1 bt1081.2).bind fun bt1085 => ((steelyardref02_Of.f k l0_2 l1_2).bind fun t1089 => ((steelyardref07_Wide.f k bt1085.1 bt1085.2 t1089).bind fun bt1092 => (some (bt1092.1, bt1092.2.1, bt1092.2.2))))))))
theorem steelyardref07_Plus.mono : ∀ a0 a1 a2 a3 a4 a5 k, LeO (steelyardref07_Plus.f k a0 a1 a2 a3 a4 a5) (steelyardref07_Plus.f (k + 1) a0 a1 a2 a3 a4 a5) := by
  intro a0 a1 a2 a3 a4 a5 k
  unfold steelyardref07_Plus.f
  repeat' first
   | with_reducible first
    | exact steelyardref02_Of.mono _ _ _
    | exact steelyardref06_Add.mono _ _ _ _ _
    | exact steelyardref06_Mul.mono _ _ _ _ _
    | exact steelyardref07_Wide.mono _ _ _ _
    | exact steelyardref07_pos.mono _ _
    | exact LeO.refl _
    | exact LeO.none _
    | refine LeO.ite ?_ ?_
    | refine LeO.bind ?_ (fun _ => ?_)
   | exact LeO.none _ | refine LeO.ite ?_ ?_ | refine LeO.bind ?_ (fun _ => ?_)
def steelyardref07_Neg.f (k : Nat) (a0_0 : Bool) (l0_1 : List Int) (l0_2 : List Int) : Option (Bool × List Int × List Int) := (steelyardref07_Good.f k a0_0 l0_1 l0_2).bind fun t1107 => (if t1107 = true then ((steelyardref06_Neg.f k a0_0 l0_1).bind fun bt1108 => ((steelyardref01_Trim.f k l0_2).bind fun t1112 => (some (bt1108.1, bt1108.2, t1112)))) else (some (false, ([] : List Int), ([] : List Int))))
theorem steelyardref07_Neg.mono : ∀ a0 a1 a2 k, LeO (steelyardref07_Neg.f k a0 a1 a2) (steelyardref07_Neg.f (k + 1) a0 a1 a2) := by
  intro a0 a1 a2 k
  unfold steelyardref07_Neg.f
  repeat' first
   | with_reducible first
    | exact steelyardref01_Trim.mono _ _
    | exact steelyardref06_Neg.mono _ _ _
    | exact steelyardref07_Good.mono _ _ _ _
    | exact LeO.refl _
    | exact LeO.none _
    | refine LeO.ite ?_ ?_
    | refine LeO.bind ?_ (fun _ => ?_)
   | exact LeO.none _ | refine LeO.ite ?_ ?_ | refine LeO.bind ?_ (fun _ => ?_)
def steelyardref07_Less.f (k : Nat) (a0_0 : Bool) (l0_1 : List Int) (l0_2 : List Int) (a1_0 : Bool) (l1_1 : List Int) (l1_2 : List Int) : Option (Int) := (steelyardref07_pos.f k l1_2).bind fun bt1131 => ((steelyardref06_Mul.f k a0_0 l0_1 bt1131.1 bt1131.2).bind fun bt1135 => ((steelyardref07_pos.f k l0_2).bind fun bt1139 => ((steelyardref06_Mul.f k a1_0 l1_1 bt1139.1 bt1139.2).bind fun bt1143 => ((steelyardref06_Cmp.f k bt1135.1 bt1135.2 bt1143.1 bt1143.2).bind fun t1147 => (some t1147)))))
theorem steelyardref07_Less.mono : ∀ a0 a1 a2 a3 a4 a5 k, LeO (steelyardref07_Less.f k a0 a1 a2 a3 a4 a5) (steelyardref07_Less.f (k + 1) a0 a1 a2 a3 a4 a5) := by
  intro a0 a1 a2 a3 a4 a5 k
  unfold steelyardref07_Less.f
  repeat' first
   | with_reducible first
    | exact steelyardref06_Cmp.mono _ _ _ _ _
    | exact steelyardref06_Mul.mono _ _ _ _ _
    | exact steelyardref07_pos.mono _ _
    | exact LeO.refl _
    | exact LeO.none _
    | refine LeO.ite ?_ ?_
    | refine LeO.bind ?_ (fun _ => ?_)
   | exact LeO.none _ | refine LeO.ite ?_ ?_ | refine LeO.bind ?_ (fun _ => ?_)
def steelyardref07_Cmp.f (k : Nat) (a0_0 : Bool) (l0_1 : List Int) (l0_2 : List Int) (a1_0 : Bool) (l1_1 : List Int) (l1_2 : List Int) : Option (Int) := (steelyardref07_Good.f k a0_0 l0_1 l0_2).bind fun t1245 => (if t1245 = true then ((steelyardref07_Good.f k a1_0 l1_1 l1_2).bind fun t1246 => (if t1246 = true then ((steelyardref07_Less.f k a0_0 l0_1 l0_2 a1_0 l1_1 l1_2).bind fun t1247 => (some t1247)) else (some 0))) else (some 0))
theorem steelyardref07_Cmp.mono : ∀ a0 a1 a2 a3 a4 a5 k, LeO (steelyardref07_Cmp.f k a0 a1 a2 a3 a4 a5) (steelyardref07_Cmp.f (k + 1) a0 a1 a2 a3 a4 a5) := by
  intro a0 a1 a2 a3 a4 a5 k
  unfold steelyardref07_Cmp.f
  repeat' first
   | with_reducible first
    | exact steelyardref07_Good.mono _ _ _ _
    | exact steelyardref07_Less.mono _ _ _ _ _ _ _
    | exact LeO.refl _
    | exact LeO.none _
    | refine LeO.ite ?_ ?_
    | refine LeO.bind ?_ (fun _ => ?_)
   | exact LeO.none _ | refine LeO.ite ?_ ?_ | refine LeO.bind ?_ (fun _ => ?_)
def steelyardref07_Sign.f (k : Nat) (a0_0 : Bool) (l0_1 : List Int) (l0_2 : List Int) : Option (Int) := (steelyardref07_Whole.f k 0).bind fun bt1249 => ((steelyardref07_Cmp.f k a0_0 l0_1 l0_2 bt1249.1 bt1249.2.1 bt1249.2.2).bind fun t1256 => (some t1256))
theorem steelyardref07_Sign.mono : ∀ a0 a1 a2 k, LeO (steelyardref07_Sign.f k a0 a1 a2) (steelyardref07_Sign.f (k + 1) a0 a1 a2) := by
  intro a0 a1 a2 k
  unfold steelyardref07_Sign.f
  repeat' first
   | with_reducible first
    | exact steelyardref07_Cmp.mono _ _ _ _ _ _ _
    | exact steelyardref07_Whole.mono _ _
    | exact LeO.refl _
    | exact LeO.none _
    | refine LeO.ite ?_ ?_
    | refine LeO.bind ?_ (fun _ => ?_)
   | exact LeO.none _ | refine LeO.ite ?_ ?_ | refine LeO.bind ?_ (fun _ => ?_)
end Go.Proofs.YtjgmmaeafodpmaaDoor.P
set_option linter.unusedVariables false
set_option linter.unusedSimpArgs false
namespace Go.Proofs.YtjgmmaeafodpmaaDoor.P
open Go.RowKit Go.Proofs.YtjgmmaeafodpmaaDoorW.PrintWords Go.Proofs.YtjgmmaeafodpmaaDoorW.PrintLast Go.Proofs.YtjgmmaeafodpmaaDoorW.PrintMore
def steelyardlaw07_By.f (k : Nat) (a0 : Int) (a1 : Int) : Option (Bool × List Int × List Int) := (steelyardref07_Whole.f k a0).bind fun bt716 => ((steelyardref07_Whole.f k a1).bind fun bt723 => ((steelyardref07_Div.f k bt716.1 bt716.2.1 bt716.2.2 bt723.1 bt723.2.1 bt723.2.2).bind fun bt730 => (some (bt730.1, bt730.2.1, bt730.2.2.1))))
theorem steelyardlaw07_By.mono : ∀ a0 a1 k, LeO (steelyardlaw07_By.f k a0 a1) (steelyardlaw07_By.f (k + 1) a0 a1) := by
  intro a0 a1 k
  unfold steelyardlaw07_By.f
  repeat' first
   | with_reducible first
    | exact steelyardref07_Div.mono _ _ _ _ _ _ _
    | exact steelyardref07_Whole.mono _ _
    | exact LeO.refl _
    | exact LeO.none _
    | refine LeO.ite ?_ ?_
    | refine LeO.bind ?_ (fun _ => ?_)
   | exact LeO.none _ | refine LeO.ite ?_ ?_ | refine LeO.bind ?_ (fun _ => ?_)
end Go.Proofs.YtjgmmaeafodpmaaDoor.P
set_option linter.unusedVariables false
set_option linter.unusedSimpArgs false
namespace Go.Proofs.YtjgmmaeafodpmaaDoor.P
open Go.RowKit Go.Proofs.YtjgmmaeafodpmaaDoorW.PrintWords Go.Proofs.YtjgmmaeafodpmaaDoorW.PrintLast Go.Proofs.YtjgmmaeafodpmaaDoorW.PrintMore
def steelyardlaw25_wakes.f (k : Nat)  : Option (Bool) := (steelyardlaw07_By.f k 2 1).bind fun bt925 => ((enclose_Text.f k bt925.1 bt925.2.1 bt925.2.2 2).bind fun bt932 => ((steelyardlaw07_By.f k 9 4).bind fun bt935 => ((enclose_Text.f k bt935.1 bt935.2.1 bt935.2.2 1).bind fun bt942 => ((steelyardlaw07_By.f k 1 3).bind fun bt945 => ((enclose_Root.f k bt945.1 bt945.2.1 bt945.2.2 0).bind fun bt952 => ((steelyardlaw07_By.f k (-1) 3).bind fun bt969 => ((enclose_Root.f k bt969.1 bt969.2.1 bt969.2.2 0).bind fun bt976 => ((steelyardlaw07_By.f k 1 3).bind fun bt993 => ((enclose_Root.f k bt993.1 bt993.2.1 bt993.2.2 61).bind fun bt1000 => (if bt932.2.2 = 0 then (if bt932.1.toList = ([49, 46, 52, 49] : List UInt8) then (if bt932.2.1.toList = ([49, 46, 52, 50] : List UInt8) then (if bt942.2.2 = 0 then (if bt942.1.toList = ([49, 46, 53] : List UInt8) then (if bt942.2.1.toList = ([49, 46, 53] : List UInt8) then (if bt952.2.2.2.2.2.2 = 0 then ((rat_Sign.f k bt952.1 bt952.2.1 bt952.2.2.1).bind fun t1017 => (if t1017 = 0 then ((steelyardlaw07_By.f k 1 1).bind fun bt1018 => ((steelyardkeep_Rat.f k bt952.2.2.2.1 bt952.2.2.2.2.1 bt952.2.2.2.2.2.1 bt1018.1 bt1018.2.1 bt1018.2.2).bind fun t1025 => (if t1025 = true then (if bt976.2.2.2.2.2.2 = 18 then (some (bt1000.2.2.2.2.2.2 == 1)) else (none)) else (none)))) else (none))) else (none)) else (none)) else (none)) else (none)) else (none)) else (none)) else (none)))))))))))
theorem steelyardlaw25_wakes.mono : ∀ k, LeO (steelyardlaw25_wakes.f k ) (steelyardlaw25_wakes.f (k + 1) ) := by
  intro  k
  unfold steelyardlaw25_wakes.f
  repeat' first
   | with_reducible first
    | exact enclose_Root.mono _ _ _ _ _
    | exact enclose_Text.mono _ _ _ _ _
    | exact rat_Sign.mono _ _ _ _
    | exact steelyardkeep_Rat.mono _ _ _ _ _ _ _
    | exact steelyardlaw07_By.mono _ _ _
    | exact LeO.refl _
    | exact LeO.none _
    | refine LeO.ite ?_ ?_
    | refine LeO.bind ?_ (fun _ => ?_)
   | exact LeO.none _ | refine LeO.ite ?_ ?_ | refine LeO.bind ?_ (fun _ => ?_)
end Go.Proofs.YtjgmmaeafodpmaaDoor.P

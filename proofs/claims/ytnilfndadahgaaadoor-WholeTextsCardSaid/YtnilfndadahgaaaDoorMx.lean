/- Plain functions: what the Go functions of a package come to. · Plain functions: what the Go functions of a package come to. · Plain functions: what the Go functions of a package come to. · Plain functions: what the Go functions of a package come to. · Plain functions: what the Go functions of a package come to. · Plain functions: what the Go functions of a package come to. · Plain functions: what the Go functions of a package come to. · Plain functions: what the Go functions of a package come to. · Plain functions: what the Go functions of a package come to. · Plain functions: what the Go functions of a package come to. · Plain functions: what the Go functions of a package come to. · Plain functions: what the Go functions of a package come to. -/
import Derived.Test.YtnilfndadahgaaaDoorYWords
set_option linter.unusedVariables false
set_option linter.unusedSimpArgs false
namespace Go.Proofs.YtnilfndadahgaaaDoor.P
open Go.RowKit Go.Proofs.YtnilfndadahgaaaDoorW.PrintWords Go.Proofs.YtnilfndadahgaaaDoorW.PrintLast Go.Proofs.YtnilfndadahgaaaDoorW.PrintMore
def stringslite_HasPrefix.f (a0 : ByteArray) (a1 : ByteArray) : Option (Bool) := if (a0.size : Int) ≥ (a1.size : Int) then (if 0 ≤ (a1.size : Int) then (if (a1.size : Int) ≤ (a0.size : Int) then (some ((a0.extract 0 ((a1.size : Int) : Int).toNat).toList == a1.toList)) else (none)) else (none)) else (some false)
def stringslite_CutPrefix.f (a0 : ByteArray) (a1 : ByteArray) : Option (ByteArray × Bool) := (stringslite_HasPrefix.f a0 a1).bind fun t102 => (if t102 = true then (if 0 ≤ (a1.size : Int) then (if (a1.size : Int) ≤ (a0.size : Int) then (some (a0.extract ((a1.size : Int) : Int).toNat a0.size, true)) else (none)) else (none)) else (some (a0, false)))
def strings_CutPrefix.f (a0 : ByteArray) (a1 : ByteArray) : Option (ByteArray × Bool) := (stringslite_CutPrefix.f a0 a1).bind fun bt103 => (some (bt103.1, bt103.2))
def bits_Add32.f (a0 : Int) (a1 : Int) (a2 : Int) : Option (Int × Int) := some ((IntKind.u64.wrap ((IntKind.u64.wrap ((IntKind.u64.wrap (a0)) + (IntKind.u64.wrap (a1)))) + (IntKind.u64.wrap (a2)))) % 4294967296, ((IntKind.u64.wrap ((IntKind.u64.wrap ((IntKind.u64.wrap (a0)) + (IntKind.u64.wrap (a1)))) + (IntKind.u64.wrap (a2)))) / 4294967296) % 4294967296)
def cmp_isNaN_int.f (a0 : Int) : Option (Bool) := some (a0 != a0)
def cmp_Compare_int.f (a0 : Int) (a1 : Int) : Option (Int) := (cmp_isNaN_int.f a0).bind fun t215 => ((cmp_isNaN_int.f a1).bind fun t216 => (if t215 = true then (if t216 = true then (some 0) else (some (-1))) else (if t216 = true then (some 1) else (if a0 < a1 then (some (-1)) else (if a0 > a1 then (some 1) else (some 0))))))
def cmp_isNaN_uint32.f (a0 : Int) : Option (Bool) := some (a0 != a0)
def cmp_Compare_uint32.f (a0 : Int) (a1 : Int) : Option (Int) := (cmp_isNaN_uint32.f a0).bind fun t217 => ((cmp_isNaN_uint32.f a1).bind fun t218 => (if t217 = true then (if t218 = true then (some 0) else (some (-1))) else (if t218 = true then (some 1) else (if a0 < a1 then (some (-1)) else (if a0 > a1 then (some 1) else (some 0))))))
def bits_Sub32.f (a0 : Int) (a1 : Int) (a2 : Int) : Option (Int × Int) := some ((((a0 - a1) % 4294967296) - a2) % 4294967296, (Go.bits .or .u32 (Go.bits .and .u32 (Go.bits .xor .u32 4294967295 a0) a1) (Go.bits .and .u32 (Go.bits .xor .u32 4294967295 (Go.bits .xor .u32 a0 a1)) ((((a0 - a1) % 4294967296) - a2) % 4294967296))) / 2147483648)
def bits_Div32.f (a0 : Int) (a1 : Int) (a2 : Int) : Option (Int × Int) := if a2 = 0 then (if (IntKind.u64.wrap (a2)) = 0 then (none) else (some ((IntKind.u64.wrap (Int.tdiv (Go.bits .or .u64 (IntKind.u64.wrap ((IntKind.u64.wrap (a0)) * 4294967296)) (IntKind.u64.wrap (a1))) (IntKind.u64.wrap (a2)))) % 4294967296, (Int.tmod (Go.bits .or .u64 (IntKind.u64.wrap ((IntKind.u64.wrap (a0)) * 4294967296)) (IntKind.u64.wrap (a1))) (IntKind.u64.wrap (a2))) % 4294967296))) else (if a2 ≤ a0 then (none) else (if (IntKind.u64.wrap (a2)) = 0 then (none) else (some ((IntKind.u64.wrap (Int.tdiv (Go.bits .or .u64 (IntKind.u64.wrap ((IntKind.u64.wrap (a0)) * 4294967296)) (IntKind.u64.wrap (a1))) (IntKind.u64.wrap (a2)))) % 4294967296, (Int.tmod (Go.bits .or .u64 (IntKind.u64.wrap ((IntKind.u64.wrap (a0)) * 4294967296)) (IntKind.u64.wrap (a1))) (IntKind.u64.wrap (a2))) % 4294967296))))
def slices_Reverse_byte_byte.l0 : Nat → List Int → Int → Int → Option (List Int)
  | 0, _, _, _ => none
  | k + 1, x0, x2, x3 => if x2 < x3 then (if 0 ≤ x3 then (if x3 < (x0.length : Int) then (if 0 ≤ x2 then (if x2 < (x0.length : Int) then (slices_Reverse_byte_byte.l0 k ((x0.set (x2 : Int).toNat (rd x0 x3)).set (x3 : Int).toNat (rd x0 x2)) (wrap64 (x2 + 1)) (wrap64 (x3 - 1))) else (none)) else (none)) else (none)) else (none)) else (some x0)
def slices_Reverse_byte_byte.f (k : Nat) (l0 : List Int) : Option (List Int) := slices_Reverse_byte_byte.l0 k l0 0 (wrap64 ((l0.length : Int) - 1))
theorem slices_Reverse_byte_byte.mono_l : ∀ k, (∀ y0 y1 y2, LeO (slices_Reverse_byte_byte.l0 k y0 y1 y2) (slices_Reverse_byte_byte.l0 (k + 1) y0 y1 y2))
  | 0 => fun _ _ _ r h => by simp [slices_Reverse_byte_byte.l0] at h
  | k + 1 => by
    have ih0 := slices_Reverse_byte_byte.mono_l k
    · intro y0 y1 y2
      unfold slices_Reverse_byte_byte.l0
      repeat' first
      | (with_reducible exact ih0 _ _ _)
      | (with_reducible exact LeO.refl _)
      | (with_reducible exact LeO.none _)
      | (with_reducible refine LeO.ite ?_ ?_)
      | (with_reducible refine LeO.bind ?_ (fun _ => ?_))
      | exact ih0 _ _ _
      | exact LeO.none _
      | refine LeO.ite ?_ ?_
      | refine LeO.bind ?_ (fun _ => ?_)
theorem slices_Reverse_byte_byte.mono : ∀ a0 k, LeO (slices_Reverse_byte_byte.f k a0) (slices_Reverse_byte_byte.f (k + 1) a0) := by
  intro a0 k
  have ih0 := slices_Reverse_byte_byte.mono_l k
  unfold slices_Reverse_byte_byte.f
  repeat' first
      | (with_reducible exact ih0 _ _ _)
      | (with_reducible exact LeO.refl _)
      | (with_reducible exact LeO.none _)
      | (with_reducible refine LeO.ite ?_ ?_)
      | (with_reducible refine LeO.bind ?_ (fun _ => ?_))
      | exact ih0 _ _ _
      | exact LeO.none _
      | refine LeO.ite ?_ ?_
      | refine LeO.bind ?_ (fun _ => ?_)
end Go.Proofs.YtnilfndadahgaaaDoor.P
set_option linter.unusedVariables false
set_option linter.unusedSimpArgs false
namespace Go.Proofs.YtnilfndadahgaaaDoor.P
open Go.RowKit Go.Proofs.YtnilfndadahgaaaDoorW.PrintWords Go.Proofs.YtnilfndadahgaaaDoorW.PrintLast Go.Proofs.YtnilfndadahgaaaDoorW.PrintMore
def nat_used.l0 : Nat → List Int → Int → Option (Int)
  | 0, _, _ => none
  | k + 1, x0, x3 => if x3 > 0 then (if 0 ≤ (wrap64 (x3 - 1)) then (if (wrap64 (x3 - 1)) < (x0.length : Int) then (if (rd x0 (wrap64 (x3 - 1))) = 0 then (nat_used.l0 k x0 (wrap64 (x3 - 1))) else (some x3)) else (none)) else (none)) else (some x3)
def nat_used.f (k : Nat) (l0 : List Int) : Option (Int) := nat_used.l0 k l0 (l0.length : Int)
theorem nat_used.mono_l : ∀ k, (∀ y0 y1, LeO (nat_used.l0 k y0 y1) (nat_used.l0 (k + 1) y0 y1))
  | 0 => fun _ _ r h => by simp [nat_used.l0] at h
  | k + 1 => by
    have ih0 := nat_used.mono_l k
    · intro y0 y1
      unfold nat_used.l0
      repeat' first
      | (with_reducible exact ih0 _ _)
      | (with_reducible exact LeO.refl _)
      | (with_reducible exact LeO.none _)
      | (with_reducible refine LeO.ite ?_ ?_)
      | (with_reducible refine LeO.bind ?_ (fun _ => ?_))
      | exact ih0 _ _
      | exact LeO.none _
      | refine LeO.ite ?_ ?_
      | refine LeO.bind ?_ (fun _ => ?_)
theorem nat_used.mono : ∀ a0 k, LeO (nat_used.f k a0) (nat_used.f (k + 1) a0) := by
  intro a0 k
  have ih0 := nat_used.mono_l k
  unfold nat_used.f
  repeat' first
      | (with_reducible exact ih0 _ _)
      | (with_reducible exact LeO.refl _)
      | (with_reducible exact LeO.none _)
      | (with_reducible refine LeO.ite ?_ ?_)
      | (with_reducible refine LeO.bind ?_ (fun _ => ?_))
      | exact ih0 _ _
      | exact LeO.none _
      | refine LeO.ite ?_ ?_
      | refine LeO.bind ?_ (fun _ => ?_)
def nat_Trim.f (k : Nat) (l0 : List Int) : Option (List Int) := (nat_used.f k l0).bind fun t106 => (if 0 ≤ t106 then (if (t106 : Int).toNat ≤ 70368744177664 then (some (cpy (List.replicate (t106 : Int).toNat 0) 0 l0)) else (none)) else (none))
theorem nat_Trim.mono : ∀ a0 k, LeO (nat_Trim.f k a0) (nat_Trim.f (k + 1) a0) := by
  intro a0 k
  unfold nat_Trim.f
  repeat' first
      | (with_reducible exact nat_used.mono _ _)
      | (with_reducible exact LeO.refl _)
      | (with_reducible exact LeO.none _)
      | (with_reducible refine LeO.ite ?_ ?_)
      | (with_reducible refine LeO.bind ?_ (fun _ => ?_))
      | exact nat_used.mono _ _
      | exact LeO.none _
      | refine LeO.ite ?_ ?_
      | refine LeO.bind ?_ (fun _ => ?_)
def nat_at.f (l0 : List Int) (a1 : Int) : Option (Int) := if a1 < (l0.length : Int) then (if 0 ≤ a1 then (some (rd l0 a1)) else (none)) else (some 0)
def nat_Add.l0 : Nat → List Int → List Int → List Int → Int → Int → Int → Option (List Int)
  | 0, _, _, _, _, _, _ => none
  | k + 1, x0, x1, x5, x6, x19, x20 => if x20 < x19 then ((nat_at.f x0 x20).bind fun t118 => ((nat_at.f x1 x20).bind fun t119 => ((bits_Add32.f t118 t119 x6).bind fun bt120 => (if 0 ≤ x20 then (if x20 < (x5.length : Int) then (nat_Add.l0 k x0 x1 (x5.set (x20 : Int).toNat bt120.1) bt120.2 x19 (wrap64 (x20 + 1))) else (none)) else (none))))) else ((nat_Trim.f k x5).bind fun t123 => (some t123))
def nat_Add.f (k : Nat) (l0 : List Int) (l1 : List Int) : Option (List Int) := (nat_used.f k l0).bind fun t112 => ((nat_used.f k l1).bind fun t113 => (if 0 ≤ (wrap64 ((mx t112 t113) + 1)) then (if (wrap64 ((mx t112 t113) + 1) : Int).toNat ≤ 70368744177664 then ((some (List.replicate (wrap64 ((mx t112 t113) + 1) : Int).toNat 0 : List Int)).bind fun y114 => (nat_Add.l0 k l0 l1 (cpy y114 0 l0) 0 (y114.length : Int) 0)) else (none)) else (none)))
theorem nat_Add.mono_l : ∀ k, (∀ y0 y1 y2 y3 y4 y5, LeO (nat_Add.l0 k y0 y1 y2 y3 y4 y5) (nat_Add.l0 (k + 1) y0 y1 y2 y3 y4 y5))
  | 0 => fun _ _ _ _ _ _ r h => by simp [nat_Add.l0] at h
  | k + 1 => by
    have ih0 := nat_Add.mono_l k
    · intro y0 y1 y2 y3 y4 y5
      unfold nat_Add.l0
      repeat' first
      | (with_reducible exact ih0 _ _ _ _ _ _)
      | (with_reducible exact nat_Trim.mono _ _)
      | (with_reducible exact nat_used.mono _ _)
      | (with_reducible exact LeO.refl _)
      | (with_reducible exact LeO.none _)
      | (with_reducible refine LeO.ite ?_ ?_)
      | (with_reducible refine LeO.bind ?_ (fun _ => ?_))
      | exact ih0 _ _ _ _ _ _
      | exact nat_Trim.mono _ _
      | exact nat_used.mono _ _
      | exact LeO.none _
      | refine LeO.ite ?_ ?_
      | refine LeO.bind ?_ (fun _ => ?_)
theorem nat_Add.mono : ∀ a0 a1 k, LeO (nat_Add.f k a0 a1) (nat_Add.f (k + 1) a0 a1) := by
  intro a0 a1 k
  have ih0 := nat_Add.mono_l k
  unfold nat_Add.f
  repeat' first
      | (with_reducible exact ih0 _ _ _ _ _ _)
      | (with_reducible exact nat_Trim.mono _ _)
      | (with_reducible exact nat_used.mono _ _)
      | (with_reducible exact LeO.refl _)
      | (with_reducible exact LeO.none _)
      | (with_reducible refine LeO.ite ?_ ?_)
      | (with_reducible refine LeO.bind ?_ (fun _ => ?_))
      | exact ih0 _ _ _ _ _ _
      | exact nat_Trim.mono _ _
      | exact nat_used.mono _ _
      | exact LeO.none _
      | refine LeO.ite ?_ ?_
      | refine LeO.bind ?_ (fun _ => ?_)
def nat_Of.f (k : Nat) (a0 : Int) : Option (List Int) := (nat_Trim.f k (([(a0) % 4294967296, (a0 / 4294967296) % 4294967296] : List Int))).bind fun t129 => (some t129)
theorem nat_Of.mono : ∀ a0 k, LeO (nat_Of.f k a0) (nat_Of.f (k + 1) a0) := by
  intro a0 k
  unfold nat_Of.f
  repeat' first
      | (with_reducible exact nat_Trim.mono _ _)
      | (with_reducible exact LeO.refl _)
      | (with_reducible exact LeO.none _)
      | (with_reducible refine LeO.ite ?_ ?_)
      | (with_reducible refine LeO.bind ?_ (fun _ => ?_))
      | exact nat_Trim.mono _ _
      | exact LeO.none _
      | refine LeO.ite ?_ ?_
      | refine LeO.bind ?_ (fun _ => ?_)
def nat_Cmp.l0 : Nat → List Int → List Int → Int → Option (Int)
  | 0, _, _, _ => none
  | k + 1, x0, x1, x7 => if x7 ≥ 0 then (if 0 ≤ x7 then (if x7 < (x0.length : Int) then (if x7 < (x1.length : Int) then ((cmp_Compare_uint32.f (rd x0 x7) (rd x1 x7)).bind fun t224 => (if t224 = 0 then (nat_Cmp.l0 k x0 x1 (wrap64 (x7 - 1))) else (some t224))) else (none)) else (none)) else (none)) else (some 0)
def nat_Cmp.f (k : Nat) (l0 : List Int) (l1 : List Int) : Option (Int) := (nat_used.f k l0).bind fun t219 => ((nat_used.f k l1).bind fun t220 => ((cmp_Compare_int.f t219 t220).bind fun t221 => (if t221 = 0 then (nat_Cmp.l0 k l0 l1 (wrap64 (t219 - 1))) else (some t221))))
theorem nat_Cmp.mono_l : ∀ k, (∀ y0 y1 y2, LeO (nat_Cmp.l0 k y0 y1 y2) (nat_Cmp.l0 (k + 1) y0 y1 y2))
  | 0 => fun _ _ _ r h => by simp [nat_Cmp.l0] at h
  | k + 1 => by
    have ih0 := nat_Cmp.mono_l k
    · intro y0 y1 y2
      unfold nat_Cmp.l0
      repeat' first
      | (with_reducible exact ih0 _ _ _)
      | (with_reducible exact nat_used.mono _ _)
      | (with_reducible exact LeO.refl _)
      | (with_reducible exact LeO.none _)
      | (with_reducible refine LeO.ite ?_ ?_)
      | (with_reducible refine LeO.bind ?_ (fun _ => ?_))
      | exact ih0 _ _ _
      | exact nat_used.mono _ _
      | exact LeO.none _
      | refine LeO.ite ?_ ?_
      | refine LeO.bind ?_ (fun _ => ?_)
theorem nat_Cmp.mono : ∀ a0 a1 k, LeO (nat_Cmp.f k a0 a1) (nat_Cmp.f (k + 1) a0 a1) := by
  intro a0 a1 k
  have ih0 := nat_Cmp.mono_l k
  unfold nat_Cmp.f
  repeat' first
      | (with_reducible exact ih0 _ _ _)
      | (with_reducible exact nat_used.mono _ _)
      | (with_reducible exact LeO.refl _)
      | (with_reducible exact LeO.none _)
      | (with_reducible refine LeO.ite ?_ ?_)
      | (with_reducible refine LeO.bind ?_ (fun _ => ?_))
      | exact ih0 _ _ _
      | exact nat_used.mono _ _
      | exact LeO.none _
      | refine LeO.ite ?_ ?_
      | refine LeO.bind ?_ (fun _ => ?_)
def nat_Sub.l0 : Nat → List Int → List Int → Int → Int → Int → Option (List Int × Bool)
  | 0, _, _, _, _, _ => none
  | k + 1, x1, x6, x7, x16, x17 => if x17 < x16 then (if 0 ≤ x17 then (if x17 < (x6.length : Int) then ((nat_at.f x1 x17).bind fun t230 => ((bits_Sub32.f (rd x6 x17) t230 x7).bind fun bt231 => (nat_Sub.l0 k x1 (x6.set (x17 : Int).toNat bt231.1) bt231.2 x16 (wrap64 (x17 + 1))))) else (none)) else (none)) else ((nat_Trim.f k x6).bind fun t234 => (some (t234, true)))
def nat_Sub.f (k : Nat) (l0 : List Int) (l1 : List Int) : Option (List Int × Bool) := (nat_Cmp.f k l0 l1).bind fun t225 => (if t225 < 0 then (some (([] : List Int), false)) else ((nat_Trim.f k l0).bind fun t226 => (nat_Sub.l0 k l1 t226 0 (t226.length : Int) 0)))
theorem nat_Sub.mono_l : ∀ k, (∀ y0 y1 y2 y3 y4, LeO (nat_Sub.l0 k y0 y1 y2 y3 y4) (nat_Sub.l0 (k + 1) y0 y1 y2 y3 y4))
  | 0 => fun _ _ _ _ _ r h => by simp [nat_Sub.l0] at h
  | k + 1 => by
    have ih0 := nat_Sub.mono_l k
    · intro y0 y1 y2 y3 y4
      unfold nat_Sub.l0
      repeat' first
      | (with_reducible exact ih0 _ _ _ _ _)
      | (with_reducible exact nat_Cmp.mono _ _ _)
      | (with_reducible exact nat_Trim.mono _ _)
      | (with_reducible exact LeO.refl _)
      | (with_reducible exact LeO.none _)
      | (with_reducible refine LeO.ite ?_ ?_)
      | (with_reducible refine LeO.bind ?_ (fun _ => ?_))
      | exact ih0 _ _ _ _ _
      | exact nat_Cmp.mono _ _ _
      | exact nat_Trim.mono _ _
      | exact LeO.none _
      | refine LeO.ite ?_ ?_
      | refine LeO.bind ?_ (fun _ => ?_)
theorem nat_Sub.mono : ∀ a0 a1 k, LeO (nat_Sub.f k a0 a1) (nat_Sub.f (k + 1) a0 a1) := by
  intro a0 a1 k
  have ih0 := nat_Sub.mono_l k
  unfold nat_Sub.f
  repeat' first
      | (with_reducible exact ih0 _ _ _ _ _)
      | (with_reducible exact nat_Cmp.mono _ _ _)
      | (with_reducible exact nat_Trim.mono _ _)
      | (with_reducible exact LeO.refl _)
      | (with_reducible exact LeO.none _)
      | (with_reducible refine LeO.ite ?_ ?_)
      | (with_reducible refine LeO.bind ?_ (fun _ => ?_))
      | exact ih0 _ _ _ _ _
      | exact nat_Cmp.mono _ _ _
      | exact nat_Trim.mono _ _
      | exact LeO.none _
      | refine LeO.ite ?_ ?_
      | refine LeO.bind ?_ (fun _ => ?_)
end Go.Proofs.YtnilfndadahgaaaDoor.P
set_option linter.unusedVariables false
set_option linter.unusedSimpArgs false
namespace Go.Proofs.YtnilfndadahgaaaDoor.P
open Go.RowKit Go.Proofs.YtnilfndadahgaaaDoorW.PrintWords Go.Proofs.YtnilfndadahgaaaDoorW.PrintLast Go.Proofs.YtnilfndadahgaaaDoorW.PrintMore
mutual
def mul_Of.l0 : Nat → List Int → List Int → List Int → Int → Int → Option (List Int)
  | 0, _, _, _, _, _ => none
  | k + 1, x1, x5, x21, x22, x23 => if x23 < x22 then (if 0 ≤ x23 then (if x23 < (x21.length : Int) then (if 0 ≤ (wrap64 ((x1.length : Int) + 1)) then (if (wrap64 ((x1.length : Int) + 1) : Int).toNat ≤ 70368744177664 then ((some (List.replicate (wrap64 ((x1.length : Int) + 1) : Int).toNat 0 : List Int)).bind fun y145 => (if x23 ≤ (x5.length : Int) then (mul_Of.l1 k x1 x5 x23 (rd x21 x23) (cpy y145 0 (x5.drop (x23 : Int).toNat)) 0 x21 x22 x23 (y145.length : Int) 0) else (none))) else (none)) else (none)) else (none)) else (none)) else ((nat_Trim.f k x5).bind fun t141 => (some t141))
def mul_Of.l1 : Nat → List Int → List Int → Int → Int → List Int → Int → List Int → Int → Int → Int → Int → Option (List Int)
  | 0, _, _, _, _, _, _, _, _, _, _, _ => none
  | k + 1, x1, x5, x6, x7, x8, x9, x21, x22, x23, x38, x39 => if x39 < x38 then (if x39 < (x1.length : Int) then (if 0 ≤ x39 then (if x39 < (x8.length : Int) then (mul_Of.l1 k x1 x5 x6 x7 (x8.set (x39 : Int).toNat ((IntKind.u64.wrap ((IntKind.u64.wrap (x9 + (IntKind.u64.wrap ((IntKind.u64.wrap (x7)) * (IntKind.u64.wrap (rd x1 x39)))))) + (IntKind.u64.wrap (rd x8 x39)))) % 4294967296)) ((IntKind.u64.wrap ((IntKind.u64.wrap (x9 + (IntKind.u64.wrap ((IntKind.u64.wrap (x7)) * (IntKind.u64.wrap (rd x1 x39)))))) + (IntKind.u64.wrap (rd x8 x39)))) / 4294967296) x21 x22 x23 x38 (wrap64 (x39 + 1))) else (none)) else (none)) else (if 0 ≤ x39 then (if x39 < (x8.length : Int) then (mul_Of.l1 k x1 x5 x6 x7 (x8.set (x39 : Int).toNat ((IntKind.u64.wrap (x9 + (IntKind.u64.wrap (rd x8 x39)))) % 4294967296)) ((IntKind.u64.wrap (x9 + (IntKind.u64.wrap (rd x8 x39)))) / 4294967296) x21 x22 x23 x38 (wrap64 (x39 + 1))) else (none)) else (none))) else (if 0 ≤ x6 then (if x6 ≤ (x5.length : Int) then (mul_Of.l0 k x1 (cpy x5 (x6 : Int).toNat x8) x21 x22 (wrap64 (x23 + 1))) else (none)) else (none))
end
def mul_Of.f (k : Nat) (l0 : List Int) (l1 : List Int) : Option (List Int) := (nat_Trim.f k l0).bind fun t132 => ((nat_Trim.f k l1).bind fun t135 => (if 0 ≤ (wrap64 ((t132.length : Int) + (t135.length : Int))) then (if (wrap64 ((t132.length : Int) + (t135.length : Int)) : Int).toNat ≤ 70368744177664 then (mul_Of.l0 k t135 (List.replicate (wrap64 ((t132.length : Int) + (t135.length : Int)) : Int).toNat 0) t132 (t132.length : Int) 0) else (none)) else (none)))
theorem mul_Of.mono_l : ∀ k, (∀ y0 y1 y2 y3 y4, LeO (mul_Of.l0 k y0 y1 y2 y3 y4) (mul_Of.l0 (k + 1) y0 y1 y2 y3 y4)) ∧ (∀ y0 y1 y2 y3 y4 y5 y6 y7 y8 y9 y10, LeO (mul_Of.l1 k y0 y1 y2 y3 y4 y5 y6 y7 y8 y9 y10) (mul_Of.l1 (k + 1) y0 y1 y2 y3 y4 y5 y6 y7 y8 y9 y10))
  | 0 => ⟨fun _ _ _ _ _ r h => by simp [mul_Of.l0] at h, fun _ _ _ _ _ _ _ _ _ _ _ r h => by simp [mul_Of.l1] at h⟩
  | k + 1 => by
    obtain ⟨ih0, ih1⟩ := mul_Of.mono_l k
    refine ⟨?_, ?_⟩
    · intro y0 y1 y2 y3 y4
      unfold mul_Of.l0
      repeat' first
      | (with_reducible exact ih0 _ _ _ _ _)
      | (with_reducible exact ih1 _ _ _ _ _ _ _ _ _ _ _)
      | (with_reducible exact nat_Trim.mono _ _)
      | (with_reducible exact LeO.refl _)
      | (with_reducible exact LeO.none _)
      | (with_reducible refine LeO.ite ?_ ?_)
      | (with_reducible refine LeO.bind ?_ (fun _ => ?_))
      | exact ih0 _ _ _ _ _
      | exact ih1 _ _ _ _ _ _ _ _ _ _ _
      | exact nat_Trim.mono _ _
      | exact LeO.none _
      | refine LeO.ite ?_ ?_
      | refine LeO.bind ?_ (fun _ => ?_)
    · intro y0 y1 y2 y3 y4 y5 y6 y7 y8 y9 y10
      unfold mul_Of.l1
      repeat' first
      | (with_reducible exact ih0 _ _ _ _ _)
      | (with_reducible exact ih1 _ _ _ _ _ _ _ _ _ _ _)
      | (with_reducible exact nat_Trim.mono _ _)
      | (with_reducible exact LeO.refl _)
      | (with_reducible exact LeO.none _)
      | (with_reducible refine LeO.ite ?_ ?_)
      | (with_reducible refine LeO.bind ?_ (fun _ => ?_))
      | exact ih0 _ _ _ _ _
      | exact ih1 _ _ _ _ _ _ _ _ _ _ _
      | exact nat_Trim.mono _ _
      | exact LeO.none _
      | refine LeO.ite ?_ ?_
      | refine LeO.bind ?_ (fun _ => ?_)
theorem mul_Of.mono : ∀ a0 a1 k, LeO (mul_Of.f k a0 a1) (mul_Of.f (k + 1) a0 a1) := by
  intro a0 a1 k
  obtain ⟨ih0, ih1⟩ := mul_Of.mono_l k
  unfold mul_Of.f
  repeat' first
      | (with_reducible exact ih0 _ _ _ _ _)
      | (with_reducible exact ih1 _ _ _ _ _ _ _ _ _ _ _)
      | (with_reducible exact nat_Trim.mono _ _)
      | (with_reducible exact LeO.refl _)
      | (with_reducible exact LeO.none _)
      | (with_reducible refine LeO.ite ?_ ?_)
      | (with_reducible refine LeO.bind ?_ (fun _ => ?_))
      | exact ih0 _ _ _ _ _
      | exact ih1 _ _ _ _ _ _ _ _ _ _ _
      | exact nat_Trim.mono _ _
      | exact LeO.none _
      | refine LeO.ite ?_ ?_
      | refine LeO.bind ?_ (fun _ => ?_)
def mul_Small.f (k : Nat) (l0 : List Int) (a1 : Int) : Option (List Int) := (mul_Of.f k l0 (([a1] : List Int))).bind fun t166 => (some t166)
theorem mul_Small.mono : ∀ a0 a1 k, LeO (mul_Small.f k a0 a1) (mul_Small.f (k + 1) a0 a1) := by
  intro a0 a1 k
  unfold mul_Small.f
  repeat' first
      | (with_reducible exact mul_Of.mono _ _ _)
      | (with_reducible exact LeO.refl _)
      | (with_reducible exact LeO.none _)
      | (with_reducible refine LeO.ite ?_ ?_)
      | (with_reducible refine LeO.bind ?_ (fun _ => ?_))
      | exact mul_Of.mono _ _ _
      | exact LeO.none _
      | refine LeO.ite ?_ ?_
      | refine LeO.bind ?_ (fun _ => ?_)
end Go.Proofs.YtnilfndadahgaaaDoor.P
set_option linter.unusedVariables false
set_option linter.unusedSimpArgs false
namespace Go.Proofs.YtnilfndadahgaaaDoor.P
open Go.RowKit Go.Proofs.YtnilfndadahgaaaDoorW.PrintWords Go.Proofs.YtnilfndadahgaaaDoorW.PrintLast Go.Proofs.YtnilfndadahgaaaDoorW.PrintMore
def quo_Small.l0 : Nat → Int → Int → List Int → Int → Option (List Int × Int × Bool)
  | 0, _, _, _, _ => none
  | k + 1, x1, x5, x7, x8 => if x8 ≥ 0 then (if 0 ≤ x8 then (if x8 < (x7.length : Int) then ((bits_Div32.f x5 (rd x7 x8) x1).bind fun bt303 => (quo_Small.l0 k x1 bt303.2 (x7.set (x8 : Int).toNat bt303.1) (wrap64 (x8 - 1)))) else (none)) else (none)) else ((nat_Trim.f k x7).bind fun t306 => (some (t306, x5, true)))
def quo_Small.f (k : Nat) (l0 : List Int) (a1 : Int) : Option (List Int × Int × Bool) := if a1 = 0 then (some (([] : List Int), 0, false)) else ((nat_Trim.f k l0).bind fun t299 => (quo_Small.l0 k a1 0 t299 (wrap64 ((t299.length : Int) - 1))))
theorem quo_Small.mono_l : ∀ k, (∀ y0 y1 y2 y3, LeO (quo_Small.l0 k y0 y1 y2 y3) (quo_Small.l0 (k + 1) y0 y1 y2 y3))
  | 0 => fun _ _ _ _ r h => by simp [quo_Small.l0] at h
  | k + 1 => by
    have ih0 := quo_Small.mono_l k
    · intro y0 y1 y2 y3
      unfold quo_Small.l0
      repeat' first
      | (with_reducible exact ih0 _ _ _ _)
      | (with_reducible exact nat_Trim.mono _ _)
      | (with_reducible exact LeO.refl _)
      | (with_reducible exact LeO.none _)
      | (with_reducible refine LeO.ite ?_ ?_)
      | (with_reducible refine LeO.bind ?_ (fun _ => ?_))
      | exact ih0 _ _ _ _
      | exact nat_Trim.mono _ _
      | exact LeO.none _
      | refine LeO.ite ?_ ?_
      | refine LeO.bind ?_ (fun _ => ?_)
theorem quo_Small.mono : ∀ a0 a1 k, LeO (quo_Small.f k a0 a1) (quo_Small.f (k + 1) a0 a1) := by
  intro a0 a1 k
  have ih0 := quo_Small.mono_l k
  unfold quo_Small.f
  repeat' first
      | (with_reducible exact ih0 _ _ _ _)
      | (with_reducible exact nat_Trim.mono _ _)
      | (with_reducible exact LeO.refl _)
      | (with_reducible exact LeO.none _)
      | (with_reducible refine LeO.ite ?_ ?_)
      | (with_reducible refine LeO.bind ?_ (fun _ => ?_))
      | exact ih0 _ _ _ _
      | exact nat_Trim.mono _ _
      | exact LeO.none _
      | refine LeO.ite ?_ ?_
      | refine LeO.bind ?_ (fun _ => ?_)
end Go.Proofs.YtnilfndadahgaaaDoor.P
set_option linter.unusedVariables false
set_option linter.unusedSimpArgs false
namespace Go.Proofs.YtnilfndadahgaaaDoor.P
open Go.RowKit Go.Proofs.YtnilfndadahgaaaDoorW.PrintWords Go.Proofs.YtnilfndadahgaaaDoorW.PrintLast Go.Proofs.YtnilfndadahgaaaDoorW.PrintMore
def digits_some.l0 : Nat → ByteArray → Int → Int → Int → Option (Int × Bool)
  | 0, _, _, _, _ => none
  | k + 1, x0, x4, x7, x8 => if x8 < x7 then (if 0 ≤ x8 then (if x8 < (x0.size : Int) then (if (bt x0 x8) < 48 then (some (0, false)) else (if (bt x0 x8) > 57 then (some (0, false)) else (digits_some.l0 k x0 ((((10 * x4) % 4294967296) + (((bt x0 x8) - 48) % 256)) % 4294967296) x7 (wrap64 (x8 + 1))))) else (none)) else (none)) else (some (x4, true))
def digits_some.f (k : Nat) (a0 : ByteArray) : Option (Int × Bool) := digits_some.l0 k a0 0 (a0.size : Int) 0
theorem digits_some.mono_l : ∀ k, (∀ y0 y1 y2 y3, LeO (digits_some.l0 k y0 y1 y2 y3) (digits_some.l0 (k + 1) y0 y1 y2 y3))
  | 0 => fun _ _ _ _ r h => by simp [digits_some.l0] at h
  | k + 1 => by
    have ih0 := digits_some.mono_l k
    · intro y0 y1 y2 y3
      unfold digits_some.l0
      repeat' first
      | (with_reducible exact ih0 _ _ _ _)
      | (with_reducible exact LeO.refl _)
      | (with_reducible exact LeO.none _)
      | (with_reducible refine LeO.ite ?_ ?_)
      | (with_reducible refine LeO.bind ?_ (fun _ => ?_))
      | exact ih0 _ _ _ _
      | exact LeO.none _
      | refine LeO.ite ?_ ?_
      | refine LeO.bind ?_ (fun _ => ?_)
theorem digits_some.mono : ∀ a0 k, LeO (digits_some.f k a0) (digits_some.f (k + 1) a0) := by
  intro a0 k
  have ih0 := digits_some.mono_l k
  unfold digits_some.f
  repeat' first
      | (with_reducible exact ih0 _ _ _ _)
      | (with_reducible exact LeO.refl _)
      | (with_reducible exact LeO.none _)
      | (with_reducible refine LeO.ite ?_ ?_)
      | (with_reducible refine LeO.bind ?_ (fun _ => ?_))
      | exact ih0 _ _ _ _
      | exact LeO.none _
      | refine LeO.ite ?_ ?_
      | refine LeO.bind ?_ (fun _ => ?_)
mutual
def digits_Parse.j0 : Nat → ByteArray → Bool → Option (List Int × Bool)
  | 0, _, _ => none
  | k + 1, x0, x14 => if x14 = true then (some (([] : List Int), false)) else (digits_Parse.l0 k x0 ([] : List Int))
def digits_Parse.l0 : Nat → ByteArray → List Int → Option (List Int × Bool)
  | 0, _, _ => none
  | k + 1, x0, x4 => if x0.toList = ([] : List UInt8) then (some (x4, true)) else (if 0 ≤ (mn 9 (x0.size : Int)) then (if (mn 9 (x0.size : Int)) ≤ (x0.size : Int) then ((digits_some.f k (x0.extract 0 ((mn 9 (x0.size : Int)) : Int).toNat)).bind fun bt169 => (if bt169.2 = true then (if (mn 9 (x0.size : Int)) < (tab0_.length : Int) then ((mul_Small.f k x4 (rd tab0_ (mn 9 (x0.size : Int)))).bind fun t172 => ((nat_Of.f k (IntKind.u64.wrap (bt169.1))).bind fun t175 => ((nat_Add.f k t172 t175).bind fun t178 => (digits_Parse.l0 k (x0.extract ((mn 9 (x0.size : Int)) : Int).toNat x0.size) t178)))) else (none)) else (some (([] : List Int), false)))) else (none)) else (none))
end
def digits_Parse.f (k : Nat) (a0 : ByteArray) : Option (List Int × Bool) := if a0.toList = ([] : List UInt8) then (digits_Parse.j0 k a0 true) else (digits_Parse.j0 k a0 (decide ((a0.size : Int) > 2000)))
theorem digits_Parse.mono_l : ∀ k, (∀ y0 y1, LeO (digits_Parse.j0 k y0 y1) (digits_Parse.j0 (k + 1) y0 y1)) ∧ (∀ y0 y1, LeO (digits_Parse.l0 k y0 y1) (digits_Parse.l0 (k + 1) y0 y1))
  | 0 => ⟨fun _ _ r h => by simp [digits_Parse.j0] at h, fun _ _ r h => by simp [digits_Parse.l0] at h⟩
  | k + 1 => by
    obtain ⟨ih0, ih1⟩ := digits_Parse.mono_l k
    refine ⟨?_, ?_⟩
    · intro y0 y1
      unfold digits_Parse.j0
      repeat' first
      | (with_reducible exact ih0 _ _)
      | (with_reducible exact ih1 _ _)
      | (with_reducible exact digits_some.mono _ _)
      | (with_reducible exact mul_Small.mono _ _ _)
      | (with_reducible exact nat_Add.mono _ _ _)
      | (with_reducible exact nat_Of.mono _ _)
      | (with_reducible exact LeO.refl _)
      | (with_reducible exact LeO.none _)
      | (with_reducible refine LeO.ite ?_ ?_)
      | (with_reducible refine LeO.bind ?_ (fun _ => ?_))
      | exact ih0 _ _
      | exact ih1 _ _
      | exact digits_some.mono _ _
      | exact mul_Small.mono _ _ _
      | exact nat_Add.mono _ _ _
      | exact nat_Of.mono _ _
      | exact LeO.none _
      | refine LeO.ite ?_ ?_
      | refine LeO.bind ?_ (fun _ => ?_)
    · intro y0 y1
      unfold digits_Parse.l0
      repeat' first
      | (with_reducible exact ih0 _ _)
      | (with_reducible exact ih1 _ _)
      | (with_reducible exact digits_some.mono _ _)
      | (with_reducible exact mul_Small.mono _ _ _)
      | (with_reducible exact nat_Add.mono _ _ _)
      | (with_reducible exact nat_Of.mono _ _)
      | (with_reducible exact LeO.refl _)
      | (with_reducible exact LeO.none _)
      | (with_reducible refine LeO.ite ?_ ?_)
      | (with_reducible refine LeO.bind ?_ (fun _ => ?_))
      | exact ih0 _ _
      | exact ih1 _ _
      | exact digits_some.mono _ _
      | exact mul_Small.mono _ _ _
      | exact nat_Add.mono _ _ _
      | exact nat_Of.mono _ _
      | exact LeO.none _
      | refine LeO.ite ?_ ?_
      | refine LeO.bind ?_ (fun _ => ?_)
theorem digits_Parse.mono : ∀ a0 k, LeO (digits_Parse.f k a0) (digits_Parse.f (k + 1) a0) := by
  intro a0 k
  obtain ⟨ih0, ih1⟩ := digits_Parse.mono_l k
  unfold digits_Parse.f
  repeat' first
      | (with_reducible exact ih0 _ _)
      | (with_reducible exact ih1 _ _)
      | (with_reducible exact digits_some.mono _ _)
      | (with_reducible exact mul_Small.mono _ _ _)
      | (with_reducible exact nat_Add.mono _ _ _)
      | (with_reducible exact nat_Of.mono _ _)
      | (with_reducible exact LeO.refl _)
      | (with_reducible exact LeO.none _)
      | (with_reducible refine LeO.ite ?_ ?_)
      | (with_reducible refine LeO.bind ?_ (fun _ => ?_))
      | exact ih0 _ _
      | exact ih1 _ _
      | exact digits_some.mono _ _
      | exact mul_Small.mono _ _ _
      | exact nat_Add.mono _ _ _
      | exact nat_Of.mono _ _
      | exact LeO.none _
      | refine LeO.ite ?_ ?_
      | refine LeO.bind ?_ (fun _ => ?_)
mutual
def digits_Text.l0 : Nat → List Int → List Int → Option (ByteArray)
  | 0, _, _ => none
  | k + 1, x0, x3 => if (x0.length : Int) > 0 then (if 9 < (tab0_.length : Int) then ((quo_Small.f k x0 (rd tab0_ 9)).bind fun bt317 => (digits_Text.l1 k x3 bt317.1 bt317.2.1 0)) else (none)) else (digits_Text.l2 k x3)
def digits_Text.l1 : Nat → List Int → List Int → Int → Int → Option (ByteArray)
  | 0, _, _, _, _ => none
  | k + 1, x3, x4, x5, x20 => if x20 < 9 then (if x3.length < 140737488355328 then (digits_Text.l1 k (x3 ++ [(48 + (Int.tmod x5 10)) % 256]) x4 ((Int.tdiv x5 10) % 4294967296) (wrap64 (x20 + 1))) else (none)) else (digits_Text.l0 k x4 x3)
def digits_Text.l2 : Nat → List Int → Option (ByteArray)
  | 0, _ => none
  | k + 1, x3 => if (x3.length : Int) > 0 then (if 0 ≤ (wrap64 ((x3.length : Int) - 1)) then (if (wrap64 ((x3.length : Int) - 1)) < (x3.length : Int) then (if (rd x3 (wrap64 ((x3.length : Int) - 1))) = 48 then (if (wrap64 ((x3.length : Int) - 1)) ≤ (x3.length : Int) then (digits_Text.l2 k (x3.take ((wrap64 ((x3.length : Int) - 1)) : Int).toNat)) else (none)) else (if (x3.length : Int) = 0 then (some (⟨#[48]⟩ : ByteArray)) else ((slices_Reverse_byte_byte.f k x3).bind fun t329 => (some (strOfNums t329))))) else (none)) else (none)) else (if (x3.length : Int) = 0 then (some (⟨#[48]⟩ : ByteArray)) else ((slices_Reverse_byte_byte.f k x3).bind fun t330 => (some (strOfNums t330))))
end
def digits_Text.f (k : Nat) (l0 : List Int) : Option (ByteArray) := (nat_Trim.f k l0).bind fun t313 => (digits_Text.l0 k t313 ([] : List Int))
theorem digits_Text.mono_l : ∀ k, (∀ y0 y1, LeO (digits_Text.l0 k y0 y1) (digits_Text.l0 (k + 1) y0 y1)) ∧ (∀ y0 y1 y2 y3, LeO (digits_Text.l1 k y0 y1 y2 y3) (digits_Text.l1 (k + 1) y0 y1 y2 y3)) ∧ (∀ y0, LeO (digits_Text.l2 k y0) (digits_Text.l2 (k + 1) y0))
  | 0 => ⟨fun _ _ r h => by simp [digits_Text.l0] at h, fun _ _ _ _ r h => by simp [digits_Text.l1] at h, fun _ r h => by simp [digits_Text.l2] at h⟩
  | k + 1 => by
    obtain ⟨ih0, ih1, ih2⟩ := digits_Text.mono_l k
    refine ⟨?_, ?_, ?_⟩
    · intro y0 y1
      unfold digits_Text.l0
      repeat' first
      | (with_reducible exact ih0 _ _)
      | (with_reducible exact ih1 _ _ _ _)
      | (with_reducible exact ih2 _)
      | (with_reducible exact nat_Trim.mono _ _)
      | (with_reducible exact quo_Small.mono _ _ _)
      | (with_reducible exact slices_Reverse_byte_byte.mono _ _)
      | (with_reducible exact LeO.refl _)
      | (with_reducible exact LeO.none _)
      | (with_reducible refine LeO.ite ?_ ?_)
      | (with_reducible refine LeO.bind ?_ (fun _ => ?_))
      | exact ih0 _ _
      | exact ih1 _ _ _ _
      | exact ih2 _
      | exact nat_Trim.mono _ _
      | exact quo_Small.mono _ _ _
      | exact slices_Reverse_byte_byte.mono _ _
      | exact LeO.none _
      | refine LeO.ite ?_ ?_
      | refine LeO.bind ?_ (fun _ => ?_)
    · intro y0 y1 y2 y3
      unfold digits_Text.l1
      repeat' first
      | (with_reducible exact ih0 _ _)
      | (with_reducible exact ih1 _ _ _ _)
      | (with_reducible exact ih2 _)
      | (with_reducible exact nat_Trim.mono _ _)
      | (with_reducible exact quo_Small.mono _ _ _)
      | (with_reducible exact slices_Reverse_byte_byte.mono _ _)
      | (with_reducible exact LeO.refl _)
      | (with_reducible exact LeO.none _)
      | (with_reducible refine LeO.ite ?_ ?_)
      | (with_reducible refine LeO.bind ?_ (fun _ => ?_))
      | exact ih0 _ _
      | exact ih1 _ _ _ _
      | exact ih2 _
      | exact nat_Trim.mono _ _
      | exact quo_Small.mono _ _ _
      | exact slices_Reverse_byte_byte.mono _ _
      | exact LeO.none _
      | refine LeO.ite ?_ ?_
      | refine LeO.bind ?_ (fun _ => ?_)
    · intro y0
      unfold digits_Text.l2
      repeat' first
      | (with_reducible exact ih0 _ _)
      | (with_reducible exact ih1 _ _ _ _)
      | (with_reducible exact ih2 _)
      | (with_reducible exact nat_Trim.mono _ _)
      | (with_reducible exact quo_Small.mono _ _ _)
      | (with_reducible exact slices_Reverse_byte_byte.mono _ _)
      | (with_reducible exact LeO.refl _)
      | (with_reducible exact LeO.none _)
      | (with_reducible refine LeO.ite ?_ ?_)
      | (with_reducible refine LeO.bind ?_ (fun _ => ?_))
      | exact ih0 _ _
      | exact ih1 _ _ _ _
      | exact ih2 _
      | exact nat_Trim.mono _ _
      | exact quo_Small.mono _ _ _
      | exact slices_Reverse_byte_byte.mono _ _
      | exact LeO.none _
      | refine LeO.ite ?_ ?_
      | refine LeO.bind ?_ (fun _ => ?_)
theorem digits_Text.mono : ∀ a0 k, LeO (digits_Text.f k a0) (digits_Text.f (k + 1) a0) := by
  intro a0 k
  obtain ⟨ih0, ih1, ih2⟩ := digits_Text.mono_l k
  unfold digits_Text.f
  repeat' first
      | (with_reducible exact ih0 _ _)
      | (with_reducible exact ih1 _ _ _ _)
      | (with_reducible exact ih2 _)
      | (with_reducible exact nat_Trim.mono _ _)
      | (with_reducible exact quo_Small.mono _ _ _)
      | (with_reducible exact slices_Reverse_byte_byte.mono _ _)
      | (with_reducible exact LeO.refl _)
      | (with_reducible exact LeO.none _)
      | (with_reducible refine LeO.ite ?_ ?_)
      | (with_reducible refine LeO.bind ?_ (fun _ => ?_))
      | exact ih0 _ _
      | exact ih1 _ _ _ _
      | exact ih2 _
      | exact nat_Trim.mono _ _
      | exact quo_Small.mono _ _ _
      | exact slices_Reverse_byte_byte.mono _ _
      | exact LeO.none _
      | refine LeO.ite ?_ ?_
      | refine LeO.bind ?_ (fun _ => ?_)
end Go.Proofs.YtnilfndadahgaaaDoor.P
set_option linter.unusedVariables false
set_option linter.unusedSimpArgs false
namespace Go.Proofs.YtnilfndadahgaaaDoor.P
open Go.RowKit Go.Proofs.YtnilfndadahgaaaDoorW.PrintWords Go.Proofs.YtnilfndadahgaaaDoorW.PrintLast Go.Proofs.YtnilfndadahgaaaDoorW.PrintMore
def steelyardkeep_Nat.l0 : Nat → List Int → List Int → Int → Option (Bool)
  | 0, _, _, _ => none
  | k + 1, x0, x1, x5 => if x5 < (x0.length : Int) then (if 0 ≤ x5 then (if x5 < (x1.length : Int) then (if (rd x0 x5) = (rd x1 x5) then (steelyardkeep_Nat.l0 k x0 x1 (wrap64 (x5 + 1))) else (some false)) else (none)) else (none)) else (some true)
def steelyardkeep_Nat.f (k : Nat) (l0 : List Int) (l1 : List Int) : Option (Bool) := if (l0.length : Int) = (l1.length : Int) then (steelyardkeep_Nat.l0 k l0 l1 0) else (some false)
theorem steelyardkeep_Nat.mono_l : ∀ k, (∀ y0 y1 y2, LeO (steelyardkeep_Nat.l0 k y0 y1 y2) (steelyardkeep_Nat.l0 (k + 1) y0 y1 y2))
  | 0 => fun _ _ _ r h => by simp [steelyardkeep_Nat.l0] at h
  | k + 1 => by
    have ih0 := steelyardkeep_Nat.mono_l k
    · intro y0 y1 y2
      unfold steelyardkeep_Nat.l0
      repeat' first
      | (with_reducible exact ih0 _ _ _)
      | (with_reducible exact LeO.refl _)
      | (with_reducible exact LeO.none _)
      | (with_reducible refine LeO.ite ?_ ?_)
      | (with_reducible refine LeO.bind ?_ (fun _ => ?_))
      | exact ih0 _ _ _
      | exact LeO.none _
      | refine LeO.ite ?_ ?_
      | refine LeO.bind ?_ (fun _ => ?_)
theorem steelyardkeep_Nat.mono : ∀ a0 a1 k, LeO (steelyardkeep_Nat.f k a0 a1) (steelyardkeep_Nat.f (k + 1) a0 a1) := by
  intro a0 a1 k
  have ih0 := steelyardkeep_Nat.mono_l k
  unfold steelyardkeep_Nat.f
  repeat' first
      | (with_reducible exact ih0 _ _ _)
      | (with_reducible exact LeO.refl _)
      | (with_reducible exact LeO.none _)
      | (with_reducible refine LeO.ite ?_ ?_)
      | (with_reducible refine LeO.bind ?_ (fun _ => ?_))
      | exact ih0 _ _ _
      | exact LeO.none _
      | refine LeO.ite ?_ ?_
      | refine LeO.bind ?_ (fun _ => ?_)
def steelyardkeep_Int.f (k : Nat) (a0_0 : Bool) (l0_1 : List Int) (a1_0 : Bool) (l1_1 : List Int) : Option (Bool) := if (a0_0 == a1_0) = true then ((steelyardkeep_Nat.f k l0_1 l1_1).bind fun t208 => (some t208)) else (some false)
theorem steelyardkeep_Int.mono : ∀ a0 a1 a2 a3 k, LeO (steelyardkeep_Int.f k a0 a1 a2 a3) (steelyardkeep_Int.f (k + 1) a0 a1 a2 a3) := by
  intro a0 a1 a2 a3 k
  unfold steelyardkeep_Int.f
  repeat' first
      | (with_reducible exact steelyardkeep_Nat.mono _ _ _)
      | (with_reducible exact LeO.refl _)
      | (with_reducible exact LeO.none _)
      | (with_reducible refine LeO.ite ?_ ?_)
      | (with_reducible refine LeO.bind ?_ (fun _ => ?_))
      | exact steelyardkeep_Nat.mono _ _ _
      | exact LeO.none _
      | refine LeO.ite ?_ ?_
      | refine LeO.bind ?_ (fun _ => ?_)
def steelyardkeep_OwnNat.f (l0 : List Int) : Option (List Int) := (some (([] : List Int) : List Int)).bind fun y411 => (if y411.length + l0.length < 35184372088832 then (some (y411 ++ l0)) else (none))
def steelyardkeep_OwnInt.f (a0_0 : Bool) (l0_1 : List Int) : Option (Bool × List Int) := (steelyardkeep_OwnNat.f l0_1).bind fun t419 => (some (a0_0, t419))
end Go.Proofs.YtnilfndadahgaaaDoor.P
set_option linter.unusedVariables false
set_option linter.unusedSimpArgs false
namespace Go.Proofs.YtnilfndadahgaaaDoor.P
open Go.RowKit Go.Proofs.YtnilfndadahgaaaDoorW.PrintWords Go.Proofs.YtnilfndadahgaaaDoorW.PrintLast Go.Proofs.YtnilfndadahgaaaDoorW.PrintMore
def steelyardref01_Trim.l0 : Nat → List Int → Int → Option (List Int)
  | 0, _, _ => none
  | k + 1, x0, x3 => if x3 > 0 then (if 0 ≤ (wrap64 (x3 - 1)) then (if (wrap64 (x3 - 1)) < (x0.length : Int) then (if (rd x0 (wrap64 (x3 - 1))) = 0 then (steelyardref01_Trim.l0 k x0 (wrap64 (x3 - 1))) else ((some (([] : List Int) : List Int)).bind fun y423 => (if 0 ≤ x3 then (if x3 ≤ (x0.length : Int) then (if y423.length + (x0.take (x3 : Int).toNat).length < 35184372088832 then (some (y423 ++ (x0.take (x3 : Int).toNat))) else (none)) else (none)) else (none)))) else (none)) else (none)) else ((some (([] : List Int) : List Int)).bind fun y430 => (if 0 ≤ x3 then (if x3 ≤ (x0.length : Int) then (if y430.length + (x0.take (x3 : Int).toNat).length < 35184372088832 then (some (y430 ++ (x0.take (x3 : Int).toNat))) else (none)) else (none)) else (none)))
def steelyardref01_Trim.f (k : Nat) (l0 : List Int) : Option (List Int) := steelyardref01_Trim.l0 k l0 (l0.length : Int)
theorem steelyardref01_Trim.mono_l : ∀ k, (∀ y0 y1, LeO (steelyardref01_Trim.l0 k y0 y1) (steelyardref01_Trim.l0 (k + 1) y0 y1))
  | 0 => fun _ _ r h => by simp [steelyardref01_Trim.l0] at h
  | k + 1 => by
    have ih0 := steelyardref01_Trim.mono_l k
    · intro y0 y1
      unfold steelyardref01_Trim.l0
      repeat' first
      | (with_reducible exact ih0 _ _)
      | (with_reducible exact LeO.refl _)
      | (with_reducible exact LeO.none _)
      | (with_reducible refine LeO.ite ?_ ?_)
      | (with_reducible refine LeO.bind ?_ (fun _ => ?_))
      | exact ih0 _ _
      | exact LeO.none _
      | refine LeO.ite ?_ ?_
      | refine LeO.bind ?_ (fun _ => ?_)
theorem steelyardref01_Trim.mono : ∀ a0 k, LeO (steelyardref01_Trim.f k a0) (steelyardref01_Trim.f (k + 1) a0) := by
  intro a0 k
  have ih0 := steelyardref01_Trim.mono_l k
  unfold steelyardref01_Trim.f
  repeat' first
      | (with_reducible exact ih0 _ _)
      | (with_reducible exact LeO.refl _)
      | (with_reducible exact LeO.none _)
      | (with_reducible refine LeO.ite ?_ ?_)
      | (with_reducible refine LeO.bind ?_ (fun _ => ?_))
      | exact ih0 _ _
      | exact LeO.none _
      | refine LeO.ite ?_ ?_
      | refine LeO.bind ?_ (fun _ => ?_)
def steelyardref01_at.f (l0 : List Int) (a1 : Int) : Option (Int) := if a1 ≥ (l0.length : Int) then (some 0) else (if 0 ≤ a1 then (if a1 < (l0.length : Int) then (some (IntKind.u64.wrap (rd l0 a1))) else (none)) else (none))
mutual
def steelyardref01_Add.l0 : Nat → List Int → List Int → List Int → Int → Int → Option (List Int)
  | 0, _, _, _, _, _ => none
  | k + 1, x0, x1, x5, x6, x7 => if x7 < (x0.length : Int) then (steelyardref01_Add.j1 k x0 x1 x5 x6 x7 true) else (if x7 < (x1.length : Int) then (steelyardref01_Add.j1 k x0 x1 x5 x6 x7 true) else (steelyardref01_Add.j1 k x0 x1 x5 x6 x7 (decide (x6 > 0))))
def steelyardref01_Add.j1 : Nat → List Int → List Int → List Int → Int → Int → Bool → Option (List Int)
  | 0, _, _, _, _, _, _ => none
  | k + 1, x0, x1, x5, x6, x7, x21 => if x21 = true then ((steelyardref01_at.f x0 x7).bind fun t438 => ((steelyardref01_at.f x1 x7).bind fun t439 => (if x5.length < 35184372088832 then (steelyardref01_Add.l0 k x0 x1 (x5 ++ [(IntKind.u64.wrap (x6 + (IntKind.u64.wrap (t438 + t439)))) % 4294967296]) ((IntKind.u64.wrap (x6 + (IntKind.u64.wrap (t438 + t439)))) / 4294967296) (wrap64 (x7 + 1))) else (none)))) else ((steelyardref01_Trim.f k x5).bind fun t443 => (some t443))
end
def steelyardref01_Add.f (k : Nat) (l0 : List Int) (l1 : List Int) : Option (List Int) := steelyardref01_Add.l0 k l0 l1 ([] : List Int) 0 0
theorem steelyardref01_Add.mono_l : ∀ k, (∀ y0 y1 y2 y3 y4, LeO (steelyardref01_Add.l0 k y0 y1 y2 y3 y4) (steelyardref01_Add.l0 (k + 1) y0 y1 y2 y3 y4)) ∧ (∀ y0 y1 y2 y3 y4 y5, LeO (steelyardref01_Add.j1 k y0 y1 y2 y3 y4 y5) (steelyardref01_Add.j1 (k + 1) y0 y1 y2 y3 y4 y5))
  | 0 => ⟨fun _ _ _ _ _ r h => by simp [steelyardref01_Add.l0] at h, fun _ _ _ _ _ _ r h => by simp [steelyardref01_Add.j1] at h⟩
  | k + 1 => by
    obtain ⟨ih0, ih1⟩ := steelyardref01_Add.mono_l k
    refine ⟨?_, ?_⟩
    · intro y0 y1 y2 y3 y4
      unfold steelyardref01_Add.l0
      repeat' first
      | (with_reducible exact ih0 _ _ _ _ _)
      | (with_reducible exact ih1 _ _ _ _ _ _)
      | (with_reducible exact steelyardref01_Trim.mono _ _)
      | (with_reducible exact LeO.refl _)
      | (with_reducible exact LeO.none _)
      | (with_reducible refine LeO.ite ?_ ?_)
      | (with_reducible refine LeO.bind ?_ (fun _ => ?_))
      | exact ih0 _ _ _ _ _
      | exact ih1 _ _ _ _ _ _
      | exact steelyardref01_Trim.mono _ _
      | exact LeO.none _
      | refine LeO.ite ?_ ?_
      | refine LeO.bind ?_ (fun _ => ?_)
    · intro y0 y1 y2 y3 y4 y5
      unfold steelyardref01_Add.j1
      repeat' first
      | (with_reducible exact ih0 _ _ _ _ _)
      | (with_reducible exact ih1 _ _ _ _ _ _)
      | (with_reducible exact steelyardref01_Trim.mono _ _)
      | (with_reducible exact LeO.refl _)
      | (with_reducible exact LeO.none _)
      | (with_reducible refine LeO.ite ?_ ?_)
      | (with_reducible refine LeO.bind ?_ (fun _ => ?_))
      | exact ih0 _ _ _ _ _
      | exact ih1 _ _ _ _ _ _
      | exact steelyardref01_Trim.mono _ _
      | exact LeO.none _
      | refine LeO.ite ?_ ?_
      | refine LeO.bind ?_ (fun _ => ?_)
theorem steelyardref01_Add.mono : ∀ a0 a1 k, LeO (steelyardref01_Add.f k a0 a1) (steelyardref01_Add.f (k + 1) a0 a1) := by
  intro a0 a1 k
  obtain ⟨ih0, ih1⟩ := steelyardref01_Add.mono_l k
  unfold steelyardref01_Add.f
  repeat' first
      | (with_reducible exact ih0 _ _ _ _ _)
      | (with_reducible exact ih1 _ _ _ _ _ _)
      | (with_reducible exact steelyardref01_Trim.mono _ _)
      | (with_reducible exact LeO.refl _)
      | (with_reducible exact LeO.none _)
      | (with_reducible refine LeO.ite ?_ ?_)
      | (with_reducible refine LeO.bind ?_ (fun _ => ?_))
      | exact ih0 _ _ _ _ _
      | exact ih1 _ _ _ _ _ _
      | exact steelyardref01_Trim.mono _ _
      | exact LeO.none _
      | refine LeO.ite ?_ ?_
      | refine LeO.bind ?_ (fun _ => ?_)
def steelyardref01_Cmp.l0 : Nat → List Int → List Int → Int → Option (Int)
  | 0, _, _, _ => none
  | k + 1, x0, x1, x5 => if x5 ≥ 0 then ((steelyardref01_at.f x0 x5).bind fun t493 => ((steelyardref01_at.f x1 x5).bind fun t494 => (if t493 < t494 then (some (-1)) else ((steelyardref01_at.f x0 x5).bind fun t495 => ((steelyardref01_at.f x1 x5).bind fun t496 => (if t495 > t496 then (some 1) else (steelyardref01_Cmp.l0 k x0 x1 (wrap64 (x5 - 1))))))))) else (some 0)
def steelyardref01_Cmp.f (k : Nat) (l0 : List Int) (l1 : List Int) : Option (Int) := steelyardref01_Cmp.l0 k l0 l1 (wrap64 ((mx (l0.length : Int) (l1.length : Int)) - 1))
theorem steelyardref01_Cmp.mono_l : ∀ k, (∀ y0 y1 y2, LeO (steelyardref01_Cmp.l0 k y0 y1 y2) (steelyardref01_Cmp.l0 (k + 1) y0 y1 y2))
  | 0 => fun _ _ _ r h => by simp [steelyardref01_Cmp.l0] at h
  | k + 1 => by
    have ih0 := steelyardref01_Cmp.mono_l k
    · intro y0 y1 y2
      unfold steelyardref01_Cmp.l0
      repeat' first
      | (with_reducible exact ih0 _ _ _)
      | (with_reducible exact LeO.refl _)
      | (with_reducible exact LeO.none _)
      | (with_reducible refine LeO.ite ?_ ?_)
      | (with_reducible refine LeO.bind ?_ (fun _ => ?_))
      | exact ih0 _ _ _
      | exact LeO.none _
      | refine LeO.ite ?_ ?_
      | refine LeO.bind ?_ (fun _ => ?_)
theorem steelyardref01_Cmp.mono : ∀ a0 a1 k, LeO (steelyardref01_Cmp.f k a0 a1) (steelyardref01_Cmp.f (k + 1) a0 a1) := by
  intro a0 a1 k
  have ih0 := steelyardref01_Cmp.mono_l k
  unfold steelyardref01_Cmp.f
  repeat' first
      | (with_reducible exact ih0 _ _ _)
      | (with_reducible exact LeO.refl _)
      | (with_reducible exact LeO.none _)
      | (with_reducible refine LeO.ite ?_ ?_)
      | (with_reducible refine LeO.bind ?_ (fun _ => ?_))
      | exact ih0 _ _ _
      | exact LeO.none _
      | refine LeO.ite ?_ ?_
      | refine LeO.bind ?_ (fun _ => ?_)
def steelyardref01_Sub.l0 : Nat → List Int → List Int → List Int → Int → Int → Option (List Int)
  | 0, _, _, _, _, _ => none
  | k + 1, x0, x1, x5, x6, x7 => if x7 < (x0.length : Int) then ((steelyardref01_at.f x0 x7).bind fun t500 => ((steelyardref01_at.f x1 x7).bind fun t501 => (if t500 < (IntKind.u64.wrap (t501 + x6)) then (if x5.length < 35184372088832 then (steelyardref01_Sub.l0 k x0 x1 (x5 ++ [(IntKind.u64.wrap ((IntKind.u64.wrap (t500 + 4294967296)) - (IntKind.u64.wrap (t501 + x6)))) % 4294967296]) 1 (wrap64 (x7 + 1))) else (none)) else (if x5.length < 35184372088832 then (steelyardref01_Sub.l0 k x0 x1 (x5 ++ [(IntKind.u64.wrap (t500 - (IntKind.u64.wrap (t501 + x6)))) % 4294967296]) 0 (wrap64 (x7 + 1))) else (none))))) else ((steelyardref01_Trim.f k x5).bind fun t497 => (some t497))
def steelyardref01_Sub.f (k : Nat) (l0 : List Int) (l1 : List Int) : Option (List Int) := steelyardref01_Sub.l0 k l0 l1 ([] : List Int) 0 0
theorem steelyardref01_Sub.mono_l : ∀ k, (∀ y0 y1 y2 y3 y4, LeO (steelyardref01_Sub.l0 k y0 y1 y2 y3 y4) (steelyardref01_Sub.l0 (k + 1) y0 y1 y2 y3 y4))
  | 0 => fun _ _ _ _ _ r h => by simp [steelyardref01_Sub.l0] at h
  | k + 1 => by
    have ih0 := steelyardref01_Sub.mono_l k
    · intro y0 y1 y2 y3 y4
      unfold steelyardref01_Sub.l0
      repeat' first
      | (with_reducible exact ih0 _ _ _ _ _)
      | (with_reducible exact steelyardref01_Trim.mono _ _)
      | (with_reducible exact LeO.refl _)
      | (with_reducible exact LeO.none _)
      | (with_reducible refine LeO.ite ?_ ?_)
      | (with_reducible refine LeO.bind ?_ (fun _ => ?_))
      | exact ih0 _ _ _ _ _
      | exact steelyardref01_Trim.mono _ _
      | exact LeO.none _
      | refine LeO.ite ?_ ?_
      | refine LeO.bind ?_ (fun _ => ?_)
theorem steelyardref01_Sub.mono : ∀ a0 a1 k, LeO (steelyardref01_Sub.f k a0 a1) (steelyardref01_Sub.f (k + 1) a0 a1) := by
  intro a0 a1 k
  have ih0 := steelyardref01_Sub.mono_l k
  unfold steelyardref01_Sub.f
  repeat' first
      | (with_reducible exact ih0 _ _ _ _ _)
      | (with_reducible exact steelyardref01_Trim.mono _ _)
      | (with_reducible exact LeO.refl _)
      | (with_reducible exact LeO.none _)
      | (with_reducible refine LeO.ite ?_ ?_)
      | (with_reducible refine LeO.bind ?_ (fun _ => ?_))
      | exact ih0 _ _ _ _ _
      | exact steelyardref01_Trim.mono _ _
      | exact LeO.none _
      | refine LeO.ite ?_ ?_
      | refine LeO.bind ?_ (fun _ => ?_)
def steelyardref01_Of.f (k : Nat) (a0 : Int) : Option (List Int) := (steelyardref01_Trim.f k (([(a0) % 4294967296, (a0 / 4294967296) % 4294967296] : List Int))).bind fun t642 => (some t642)
theorem steelyardref01_Of.mono : ∀ a0 k, LeO (steelyardref01_Of.f k a0) (steelyardref01_Of.f (k + 1) a0) := by
  intro a0 k
  unfold steelyardref01_Of.f
  repeat' first
      | (with_reducible exact steelyardref01_Trim.mono _ _)
      | (with_reducible exact LeO.refl _)
      | (with_reducible exact LeO.none _)
      | (with_reducible refine LeO.ite ?_ ?_)
      | (with_reducible refine LeO.bind ?_ (fun _ => ?_))
      | exact steelyardref01_Trim.mono _ _
      | exact LeO.none _
      | refine LeO.ite ?_ ?_
      | refine LeO.bind ?_ (fun _ => ?_)
end Go.Proofs.YtnilfndadahgaaaDoor.P
set_option linter.unusedVariables false
set_option linter.unusedSimpArgs false
namespace Go.Proofs.YtnilfndadahgaaaDoor.P
open Go.RowKit Go.Proofs.YtnilfndadahgaaaDoorW.PrintWords Go.Proofs.YtnilfndadahgaaaDoorW.PrintLast Go.Proofs.YtnilfndadahgaaaDoorW.PrintMore
def steelyardref02_Small.l0 : Nat → List Int → Int → List Int → Int → Int → Option (List Int)
  | 0, _, _, _, _, _ => none
  | k + 1, x0, x1, x5, x6, x7 => if x7 < (x0.length : Int) then (if 0 ≤ x7 then (if x5.length < 35184372088832 then (steelyardref02_Small.l0 k x0 x1 (x5 ++ [(IntKind.u64.wrap (x6 + (IntKind.u64.wrap ((IntKind.u64.wrap (rd x0 x7)) * (IntKind.u64.wrap (x1)))))) % 4294967296]) ((IntKind.u64.wrap (x6 + (IntKind.u64.wrap ((IntKind.u64.wrap (rd x0 x7)) * (IntKind.u64.wrap (x1)))))) / 4294967296) (wrap64 (x7 + 1))) else (none)) else (none)) else (if x5.length < 35184372088832 then ((steelyardref01_Trim.f k (x5 ++ [(x6) % 4294967296])).bind fun t453 => (some t453)) else (none))
def steelyardref02_Small.f (k : Nat) (l0 : List Int) (a1 : Int) : Option (List Int) := steelyardref02_Small.l0 k l0 a1 ([] : List Int) 0 0
theorem steelyardref02_Small.mono_l : ∀ k, (∀ y0 y1 y2 y3 y4, LeO (steelyardref02_Small.l0 k y0 y1 y2 y3 y4) (steelyardref02_Small.l0 (k + 1) y0 y1 y2 y3 y4))
  | 0 => fun _ _ _ _ _ r h => by simp [steelyardref02_Small.l0] at h
  | k + 1 => by
    have ih0 := steelyardref02_Small.mono_l k
    · intro y0 y1 y2 y3 y4
      unfold steelyardref02_Small.l0
      repeat' first
      | (with_reducible exact ih0 _ _ _ _ _)
      | (with_reducible exact steelyardref01_Trim.mono _ _)
      | (with_reducible exact LeO.refl _)
      | (with_reducible exact LeO.none _)
      | (with_reducible refine LeO.ite ?_ ?_)
      | (with_reducible refine LeO.bind ?_ (fun _ => ?_))
      | exact ih0 _ _ _ _ _
      | exact steelyardref01_Trim.mono _ _
      | exact LeO.none _
      | refine LeO.ite ?_ ?_
      | refine LeO.bind ?_ (fun _ => ?_)
theorem steelyardref02_Small.mono : ∀ a0 a1 k, LeO (steelyardref02_Small.f k a0 a1) (steelyardref02_Small.f (k + 1) a0 a1) := by
  intro a0 a1 k
  have ih0 := steelyardref02_Small.mono_l k
  unfold steelyardref02_Small.f
  repeat' first
      | (with_reducible exact ih0 _ _ _ _ _)
      | (with_reducible exact steelyardref01_Trim.mono _ _)
      | (with_reducible exact LeO.refl _)
      | (with_reducible exact LeO.none _)
      | (with_reducible refine LeO.ite ?_ ?_)
      | (with_reducible refine LeO.bind ?_ (fun _ => ?_))
      | exact ih0 _ _ _ _ _
      | exact steelyardref01_Trim.mono _ _
      | exact LeO.none _
      | refine LeO.ite ?_ ?_
      | refine LeO.bind ?_ (fun _ => ?_)
def steelyardref02_Up.l0 : Nat → List Int → Int → List Int → Int → Int → Option (List Int)
  | 0, _, _, _, _, _ => none
  | k + 1, x0, x1, x5, x6, x7 => if x7 < (x0.length : Int) then (if 0 ≤ x7 then (if 0 ≤ (IntKind.u64.wrap (Int.tmod x1 32)) then (if x5.length < 35184372088832 then (steelyardref02_Up.l0 k x0 x1 (x5 ++ [(Go.bits .or .u64 x6 (shl .u64 (IntKind.u64.wrap (rd x0 x7)) (IntKind.u64.wrap (Int.tmod x1 32)))) % 4294967296]) ((Go.bits .or .u64 x6 (shl .u64 (IntKind.u64.wrap (rd x0 x7)) (IntKind.u64.wrap (Int.tmod x1 32)))) / 4294967296) (wrap64 (x7 + 1))) else (none)) else (none)) else (none)) else (if x5.length < 35184372088832 then ((steelyardref01_Trim.f k (x5 ++ [(x6) % 4294967296])).bind fun t553 => (some t553)) else (none))
def steelyardref02_Up.f (k : Nat) (l0 : List Int) (a1 : Int) : Option (List Int) := if 0 ≤ (wrap64 (Int.tdiv a1 32)) then (if (wrap64 (Int.tdiv a1 32)) ≤ (wrap64 ((wrap64 ((wrap64 (Int.tdiv a1 32)) + (l0.length : Int))) + 1)) then (if (wrap64 ((wrap64 ((wrap64 (Int.tdiv a1 32)) + (l0.length : Int))) + 1) : Int).toNat ≤ 70368744177664 then (steelyardref02_Up.l0 k l0 a1 (List.replicate (wrap64 (Int.tdiv a1 32) : Int).toNat 0) 0 0) else (none)) else (none)) else (none)
theorem steelyardref02_Up.mono_l : ∀ k, (∀ y0 y1 y2 y3 y4, LeO (steelyardref02_Up.l0 k y0 y1 y2 y3 y4) (steelyardref02_Up.l0 (k + 1) y0 y1 y2 y3 y4))
  | 0 => fun _ _ _ _ _ r h => by simp [steelyardref02_Up.l0] at h
  | k + 1 => by
    have ih0 := steelyardref02_Up.mono_l k
    · intro y0 y1 y2 y3 y4
      unfold steelyardref02_Up.l0
      repeat' first
      | (with_reducible exact ih0 _ _ _ _ _)
      | (with_reducible exact steelyardref01_Trim.mono _ _)
      | (with_reducible exact LeO.refl _)
      | (with_reducible exact LeO.none _)
      | (with_reducible refine LeO.ite ?_ ?_)
      | (with_reducible refine LeO.bind ?_ (fun _ => ?_))
      | exact ih0 _ _ _ _ _
      | exact steelyardref01_Trim.mono _ _
      | exact LeO.none _
      | refine LeO.ite ?_ ?_
      | refine LeO.bind ?_ (fun _ => ?_)
theorem steelyardref02_Up.mono : ∀ a0 a1 k, LeO (steelyardref02_Up.f k a0 a1) (steelyardref02_Up.f (k + 1) a0 a1) := by
  intro a0 a1 k
  have ih0 := steelyardref02_Up.mono_l k
  unfold steelyardref02_Up.f
  repeat' first
      | (with_reducible exact ih0 _ _ _ _ _)
      | (with_reducible exact steelyardref01_Trim.mono _ _)
      | (with_reducible exact LeO.refl _)
      | (with_reducible exact LeO.none _)
      | (with_reducible refine LeO.ite ?_ ?_)
      | (with_reducible refine LeO.bind ?_ (fun _ => ?_))
      | exact ih0 _ _ _ _ _
      | exact steelyardref01_Trim.mono _ _
      | exact LeO.none _
      | refine LeO.ite ?_ ?_
      | refine LeO.bind ?_ (fun _ => ?_)
def steelyardref02_Of.l0 : Nat → List Int → List Int → List Int → Int → Option (List Int)
  | 0, _, _, _, _ => none
  | k + 1, x0, x1, x5, x6 => if x6 < (x1.length : Int) then (if 0 ≤ x6 then ((steelyardref02_Small.f k x0 (rd x1 x6)).bind fun t557 => ((steelyardref02_Up.f k t557 (wrap64 (32 * x6))).bind fun t560 => ((steelyardref01_Add.f k x5 t560).bind fun t563 => (steelyardref02_Of.l0 k x0 x1 t563 (wrap64 (x6 + 1)))))) else (none)) else ((steelyardref01_Trim.f k x5).bind fun t566 => (some t566))
def steelyardref02_Of.f (k : Nat) (l0 : List Int) (l1 : List Int) : Option (List Int) := steelyardref02_Of.l0 k l0 l1 ([] : List Int) 0
theorem steelyardref02_Of.mono_l : ∀ k, (∀ y0 y1 y2 y3, LeO (steelyardref02_Of.l0 k y0 y1 y2 y3) (steelyardref02_Of.l0 (k + 1) y0 y1 y2 y3))
  | 0 => fun _ _ _ _ r h => by simp [steelyardref02_Of.l0] at h
  | k + 1 => by
    have ih0 := steelyardref02_Of.mono_l k
    · intro y0 y1 y2 y3
      unfold steelyardref02_Of.l0
      repeat' first
      | (with_reducible exact ih0 _ _ _ _)
      | (with_reducible exact steelyardref01_Add.mono _ _ _)
      | (with_reducible exact steelyardref01_Trim.mono _ _)
      | (with_reducible exact steelyardref02_Small.mono _ _ _)
      | (with_reducible exact steelyardref02_Up.mono _ _ _)
      | (with_reducible exact LeO.refl _)
      | (with_reducible exact LeO.none _)
      | (with_reducible refine LeO.ite ?_ ?_)
      | (with_reducible refine LeO.bind ?_ (fun _ => ?_))
      | exact ih0 _ _ _ _
      | exact steelyardref01_Add.mono _ _ _
      | exact steelyardref01_Trim.mono _ _
      | exact steelyardref02_Small.mono _ _ _
      | exact steelyardref02_Up.mono _ _ _
      | exact LeO.none _
      | refine LeO.ite ?_ ?_
      | refine LeO.bind ?_ (fun _ => ?_)
theorem steelyardref02_Of.mono : ∀ a0 a1 k, LeO (steelyardref02_Of.f k a0 a1) (steelyardref02_Of.f (k + 1) a0 a1) := by
  intro a0 a1 k
  have ih0 := steelyardref02_Of.mono_l k
  unfold steelyardref02_Of.f
  repeat' first
      | (with_reducible exact ih0 _ _ _ _)
      | (with_reducible exact steelyardref01_Add.mono _ _ _)
      | (with_reducible exact steelyardref01_Trim.mono _ _)
      | (with_reducible exact steelyardref02_Small.mono _ _ _)
      | (with_reducible exact steelyardref02_Up.mono _ _ _)
      | (with_reducible exact LeO.refl _)
      | (with_reducible exact LeO.none _)
      | (with_reducible refine LeO.ite ?_ ?_)
      | (with_reducible refine LeO.bind ?_ (fun _ => ?_))
      | exact ih0 _ _ _ _
      | exact steelyardref01_Add.mono _ _ _
      | exact steelyardref01_Trim.mono _ _
      | exact steelyardref02_Small.mono _ _ _
      | exact steelyardref02_Up.mono _ _ _
      | exact LeO.none _
      | refine LeO.ite ?_ ?_
      | refine LeO.bind ?_ (fun _ => ?_)
end Go.Proofs.YtnilfndadahgaaaDoor.P
set_option linter.unusedVariables false
set_option linter.unusedSimpArgs false
namespace Go.Proofs.YtnilfndadahgaaaDoor.P
open Go.RowKit Go.Proofs.YtnilfndadahgaaaDoorW.PrintWords Go.Proofs.YtnilfndadahgaaaDoorW.PrintLast Go.Proofs.YtnilfndadahgaaaDoorW.PrintMore
mutual
def steelyardref05_Parse.j0 : Nat → ByteArray → Bool → Option (List Int × Bool)
  | 0, _, _ => none
  | k + 1, x0, x12 => if x12 = true then (some (([] : List Int), false)) else (steelyardref05_Parse.l0 k x0 ([] : List Int) 0)
def steelyardref05_Parse.l0 : Nat → ByteArray → List Int → Int → Option (List Int × Bool)
  | 0, _, _, _ => none
  | k + 1, x0, x3, x4 => if x4 < (x0.size : Int) then (if 0 ≤ x4 then (if (bt x0 x4) < 48 then (steelyardref05_Parse.j2 k x0 x3 x4 true) else (steelyardref05_Parse.j2 k x0 x3 x4 (decide ((bt x0 x4) > 57)))) else (none)) else ((steelyardref01_Trim.f k x3).bind fun t457 => (some (t457, true)))
def steelyardref05_Parse.j2 : Nat → ByteArray → List Int → Int → Bool → Option (List Int × Bool)
  | 0, _, _, _, _ => none
  | k + 1, x0, x3, x4, x29 => if x29 = true then (some (([] : List Int), false)) else ((steelyardref02_Small.f k x3 10).bind fun t460 => (if 0 ≤ x4 then (if x4 < (x0.size : Int) then ((steelyardref01_Add.f k t460 (([((bt x0 x4) - 48) % 256] : List Int))).bind fun t466 => (steelyardref05_Parse.l0 k x0 t466 (wrap64 (x4 + 1)))) else (none)) else (none)))
end
def steelyardref05_Parse.f (k : Nat) (a0 : ByteArray) : Option (List Int × Bool) := if (a0.size : Int) < 1 then (steelyardref05_Parse.j0 k a0 true) else (steelyardref05_Parse.j0 k a0 (decide ((a0.size : Int) > 2000)))
theorem steelyardref05_Parse.mono_l : ∀ k, (∀ y0 y1, LeO (steelyardref05_Parse.j0 k y0 y1) (steelyardref05_Parse.j0 (k + 1) y0 y1)) ∧ (∀ y0 y1 y2, LeO (steelyardref05_Parse.l0 k y0 y1 y2) (steelyardref05_Parse.l0 (k + 1) y0 y1 y2)) ∧ (∀ y0 y1 y2 y3, LeO (steelyardref05_Parse.j2 k y0 y1 y2 y3) (steelyardref05_Parse.j2 (k + 1) y0 y1 y2 y3))
  | 0 => ⟨fun _ _ r h => by simp [steelyardref05_Parse.j0] at h, fun _ _ _ r h => by simp [steelyardref05_Parse.l0] at h, fun _ _ _ _ r h => by simp [steelyardref05_Parse.j2] at h⟩
  | k + 1 => by
    obtain ⟨ih0, ih1, ih2⟩ := steelyardref05_Parse.mono_l k
    refine ⟨?_, ?_, ?_⟩
    · intro y0 y1
      unfold steelyardref05_Parse.j0
      repeat' first
      | (with_reducible exact ih0 _ _)
      | (with_reducible exact ih1 _ _ _)
      | (with_reducible exact ih2 _ _ _ _)
      | (with_reducible exact steelyardref01_Add.mono _ _ _)
      | (with_reducible exact steelyardref01_Trim.mono _ _)
      | (with_reducible exact steelyardref02_Small.mono _ _ _)
      | (with_reducible exact LeO.refl _)
      | (with_reducible exact LeO.none _)
      | (with_reducible refine LeO.ite ?_ ?_)
      | (with_reducible refine LeO.bind ?_ (fun _ => ?_))
      | exact ih0 _ _
      | exact ih1 _ _ _
      | exact ih2 _ _ _ _
      | exact steelyardref01_Add.mono _ _ _
      | exact steelyardref01_Trim.mono _ _
      | exact steelyardref02_Small.mono _ _ _
      | exact LeO.none _
      | refine LeO.ite ?_ ?_
      | refine LeO.bind ?_ (fun _ => ?_)
    · intro y0 y1 y2
      unfold steelyardref05_Parse.l0
      repeat' first
      | (with_reducible exact ih0 _ _)
      | (with_reducible exact ih1 _ _ _)
      | (with_reducible exact ih2 _ _ _ _)
      | (with_reducible exact steelyardref01_Add.mono _ _ _)
      | (with_reducible exact steelyardref01_Trim.mono _ _)
      | (with_reducible exact steelyardref02_Small.mono _ _ _)
      | (with_reducible exact LeO.refl _)
      | (with_reducible exact LeO.none _)
      | (with_reducible refine LeO.ite ?_ ?_)
      | (with_reducible refine LeO.bind ?_ (fun _ => ?_))
      | exact ih0 _ _
      | exact ih1 _ _ _
      | exact ih2 _ _ _ _
      | exact steelyardref01_Add.mono _ _ _
      | exact steelyardref01_Trim.mono _ _
      | exact steelyardref02_Small.mono _ _ _
      | exact LeO.none _
      | refine LeO.ite ?_ ?_
      | refine LeO.bind ?_ (fun _ => ?_)
    · intro y0 y1 y2 y3
      unfold steelyardref05_Parse.j2
      repeat' first
      | (with_reducible exact ih0 _ _)
      | (with_reducible exact ih1 _ _ _)
      | (with_reducible exact ih2 _ _ _ _)
      | (with_reducible exact steelyardref01_Add.mono _ _ _)
      | (with_reducible exact steelyardref01_Trim.mono _ _)
      | (with_reducible exact steelyardref02_Small.mono _ _ _)
      | (with_reducible exact LeO.refl _)
      | (with_reducible exact LeO.none _)
      | (with_reducible refine LeO.ite ?_ ?_)
      | (with_reducible refine LeO.bind ?_ (fun _ => ?_))
      | exact ih0 _ _
      | exact ih1 _ _ _
      | exact ih2 _ _ _ _
      | exact steelyardref01_Add.mono _ _ _
      | exact steelyardref01_Trim.mono _ _
      | exact steelyardref02_Small.mono _ _ _
      | exact LeO.none _
      | refine LeO.ite ?_ ?_
      | refine LeO.bind ?_ (fun _ => ?_)
theorem steelyardref05_Parse.mono : ∀ a0 k, LeO (steelyardref05_Parse.f k a0) (steelyardref05_Parse.f (k + 1) a0) := by
  intro a0 k
  obtain ⟨ih0, ih1, ih2⟩ := steelyardref05_Parse.mono_l k
  unfold steelyardref05_Parse.f
  repeat' first
      | (with_reducible exact ih0 _ _)
      | (with_reducible exact ih1 _ _ _)
      | (with_reducible exact ih2 _ _ _ _)
      | (with_reducible exact steelyardref01_Add.mono _ _ _)
      | (with_reducible exact steelyardref01_Trim.mono _ _)
      | (with_reducible exact steelyardref02_Small.mono _ _ _)
      | (with_reducible exact LeO.refl _)
      | (with_reducible exact LeO.none _)
      | (with_reducible refine LeO.ite ?_ ?_)
      | (with_reducible refine LeO.bind ?_ (fun _ => ?_))
      | exact ih0 _ _
      | exact ih1 _ _ _
      | exact ih2 _ _ _ _
      | exact steelyardref01_Add.mono _ _ _
      | exact steelyardref01_Trim.mono _ _
      | exact steelyardref02_Small.mono _ _ _
      | exact LeO.none _
      | refine LeO.ite ?_ ?_
      | refine LeO.bind ?_ (fun _ => ?_)
def steelyardref05_ten.l0 : Nat → List Int → List Int → Int → Int → Option (List Int × Int)
  | 0, _, _, _, _ => none
  | k + 1, x0, x4, x5, x6 => if x6 ≥ 0 then (if 0 ≤ x6 then (if x6 < (x0.length : Int) then (if x6 < (x4.length : Int) then (steelyardref05_ten.l0 k x0 (x4.set (x6 : Int).toNat ((IntKind.u64.wrap (Int.tdiv (Go.bits .or .u64 (IntKind.u64.wrap (x5 * 4294967296)) (IntKind.u64.wrap (rd x0 x6))) 10)) % 4294967296)) (Int.tmod (Go.bits .or .u64 (IntKind.u64.wrap (x5 * 4294967296)) (IntKind.u64.wrap (rd x0 x6))) 10) (wrap64 (x6 - 1))) else (none)) else (none)) else (none)) else ((steelyardref01_Trim.f k x4).bind fun t615 => (some (t615, (x5) % 256)))
def steelyardref05_ten.f (k : Nat) (l0 : List Int) : Option (List Int × Int) := (some (([] : List Int) : List Int)).bind fun y607 => (if y607.length + l0.length < 35184372088832 then (steelyardref05_ten.l0 k l0 (y607 ++ l0) 0 (wrap64 ((l0.length : Int) - 1))) else (none))
theorem steelyardref05_ten.mono_l : ∀ k, (∀ y0 y1 y2 y3, LeO (steelyardref05_ten.l0 k y0 y1 y2 y3) (steelyardref05_ten.l0 (k + 1) y0 y1 y2 y3))
  | 0 => fun _ _ _ _ r h => by simp [steelyardref05_ten.l0] at h
  | k + 1 => by
    have ih0 := steelyardref05_ten.mono_l k
    · intro y0 y1 y2 y3
      unfold steelyardref05_ten.l0
      repeat' first
      | (with_reducible exact ih0 _ _ _ _)
      | (with_reducible exact steelyardref01_Trim.mono _ _)
      | (with_reducible exact LeO.refl _)
      | (with_reducible exact LeO.none _)
      | (with_reducible refine LeO.ite ?_ ?_)
      | (with_reducible refine LeO.bind ?_ (fun _ => ?_))
      | exact ih0 _ _ _ _
      | exact steelyardref01_Trim.mono _ _
      | exact LeO.none _
      | refine LeO.ite ?_ ?_
      | refine LeO.bind ?_ (fun _ => ?_)
theorem steelyardref05_ten.mono : ∀ a0 k, LeO (steelyardref05_ten.f k a0) (steelyardref05_ten.f (k + 1) a0) := by
  intro a0 k
  have ih0 := steelyardref05_ten.mono_l k
  unfold steelyardref05_ten.f
  repeat' first
      | (with_reducible exact ih0 _ _ _ _)
      | (with_reducible exact steelyardref01_Trim.mono _ _)
      | (with_reducible exact LeO.refl _)
      | (with_reducible exact LeO.none _)
      | (with_reducible refine LeO.ite ?_ ?_)
      | (with_reducible refine LeO.bind ?_ (fun _ => ?_))
      | exact ih0 _ _ _ _
      | exact steelyardref01_Trim.mono _ _
      | exact LeO.none _
      | refine LeO.ite ?_ ?_
      | refine LeO.bind ?_ (fun _ => ?_)
mutual
def steelyardref05_Text.l0 : Nat → List Int → List Int → Option (ByteArray)
  | 0, _, _ => none
  | k + 1, x3, x4 => if (x4.length : Int) > 0 then ((steelyardref05_ten.f k x4).bind fun bt621 => (if x3.length < 140737488355328 then (steelyardref05_Text.l0 k (x3 ++ [(48 + bt621.2) % 256]) bt621.1) else (none))) else (if (x3.length : Int) = 0 then (some (⟨#[48]⟩ : ByteArray)) else (steelyardref05_Text.l1 k x3 0 (wrap64 ((x3.length : Int) - 1))))
def steelyardref05_Text.l1 : Nat → List Int → Int → Int → Option (ByteArray)
  | 0, _, _, _ => none
  | k + 1, x3, x7, x8 => if x7 < x8 then (if 0 ≤ x8 then (if x8 < (x3.length : Int) then (if 0 ≤ x7 then (if x7 < (x3.length : Int) then (steelyardref05_Text.l1 k ((x3.set (x7 : Int).toNat (rd x3 x8)).set (x8 : Int).toNat (rd x3 x7)) (wrap64 (x7 + 1)) (wrap64 (x8 - 1))) else (none)) else (none)) else (none)) else (none)) else (some (strOfNums x3))
end
def steelyardref05_Text.f (k : Nat) (l0 : List Int) : Option (ByteArray) := (steelyardref01_Trim.f k l0).bind fun t618 => (steelyardref05_Text.l0 k ([] : List Int) t618)
theorem steelyardref05_Text.mono_l : ∀ k, (∀ y0 y1, LeO (steelyardref05_Text.l0 k y0 y1) (steelyardref05_Text.l0 (k + 1) y0 y1)) ∧ (∀ y0 y1 y2, LeO (steelyardref05_Text.l1 k y0 y1 y2) (steelyardref05_Text.l1 (k + 1) y0 y1 y2))
  | 0 => ⟨fun _ _ r h => by simp [steelyardref05_Text.l0] at h, fun _ _ _ r h => by simp [steelyardref05_Text.l1] at h⟩
  | k + 1 => by
    obtain ⟨ih0, ih1⟩ := steelyardref05_Text.mono_l k
    refine ⟨?_, ?_⟩
    · intro y0 y1
      unfold steelyardref05_Text.l0
      repeat' first
      | (with_reducible exact ih0 _ _)
      | (with_reducible exact ih1 _ _ _)
      | (with_reducible exact steelyardref01_Trim.mono _ _)
      | (with_reducible exact steelyardref05_ten.mono _ _)
      | (with_reducible exact LeO.refl _)
      | (with_reducible exact LeO.none _)
      | (with_reducible refine LeO.ite ?_ ?_)
      | (with_reducible refine LeO.bind ?_ (fun _ => ?_))
      | exact ih0 _ _
      | exact ih1 _ _ _
      | exact steelyardref01_Trim.mono _ _
      | exact steelyardref05_ten.mono _ _
      | exact LeO.none _
      | refine LeO.ite ?_ ?_
      | refine LeO.bind ?_ (fun _ => ?_)
    · intro y0 y1 y2
      unfold steelyardref05_Text.l1
      repeat' first
      | (with_reducible exact ih0 _ _)
      | (with_reducible exact ih1 _ _ _)
      | (with_reducible exact steelyardref01_Trim.mono _ _)
      | (with_reducible exact steelyardref05_ten.mono _ _)
      | (with_reducible exact LeO.refl _)
      | (with_reducible exact LeO.none _)
      | (with_reducible refine LeO.ite ?_ ?_)
      | (with_reducible refine LeO.bind ?_ (fun _ => ?_))
      | exact ih0 _ _
      | exact ih1 _ _ _
      | exact steelyardref01_Trim.mono _ _
      | exact steelyardref05_ten.mono _ _
      | exact LeO.none _
      | refine LeO.ite ?_ ?_
      | refine LeO.bind ?_ (fun _ => ?_)
theorem steelyardref05_Text.mono : ∀ a0 k, LeO (steelyardref05_Text.f k a0) (steelyardref05_Text.f (k + 1) a0) := by
  intro a0 k
  obtain ⟨ih0, ih1⟩ := steelyardref05_Text.mono_l k
  unfold steelyardref05_Text.f
  repeat' first
      | (with_reducible exact ih0 _ _)
      | (with_reducible exact ih1 _ _ _)
      | (with_reducible exact steelyardref01_Trim.mono _ _)
      | (with_reducible exact steelyardref05_ten.mono _ _)
      | (with_reducible exact LeO.refl _)
      | (with_reducible exact LeO.none _)
      | (with_reducible refine LeO.ite ?_ ?_)
      | (with_reducible refine LeO.bind ?_ (fun _ => ?_))
      | exact ih0 _ _
      | exact ih1 _ _ _
      | exact steelyardref01_Trim.mono _ _
      | exact steelyardref05_ten.mono _ _
      | exact LeO.none _
      | refine LeO.ite ?_ ?_
      | refine LeO.bind ?_ (fun _ => ?_)
end Go.Proofs.YtnilfndadahgaaaDoor.P
set_option linter.unusedVariables false
set_option linter.unusedSimpArgs false
namespace Go.Proofs.YtnilfndadahgaaaDoor.P
open Go.RowKit Go.Proofs.YtnilfndadahgaaaDoorW.PrintWords Go.Proofs.YtnilfndadahgaaaDoorW.PrintLast Go.Proofs.YtnilfndadahgaaaDoorW.PrintMore
def steelyardref06_Make.f (k : Nat) (a0 : Bool) (l1 : List Int) : Option (Bool × List Int) := (steelyardref01_Trim.f k l1).bind fun t470 => (if a0 = true then (some (decide ((t470.length : Int) > 0), t470)) else (some (false, t470)))
theorem steelyardref06_Make.mono : ∀ a0 a1 k, LeO (steelyardref06_Make.f k a0 a1) (steelyardref06_Make.f (k + 1) a0 a1) := by
  intro a0 a1 k
  unfold steelyardref06_Make.f
  repeat' first
      | (with_reducible exact steelyardref01_Trim.mono _ _)
      | (with_reducible exact LeO.refl _)
      | (with_reducible exact LeO.none _)
      | (with_reducible refine LeO.ite ?_ ?_)
      | (with_reducible refine LeO.bind ?_ (fun _ => ?_))
      | exact steelyardref01_Trim.mono _ _
      | exact LeO.none _
      | refine LeO.ite ?_ ?_
      | refine LeO.bind ?_ (fun _ => ?_)
mutual
def steelyardref06_Parse.j0 : Nat → ByteArray → Bool → Option (Bool × List Int × Bool)
  | 0, _, _ => none
  | k + 1, x0, x3 => if x3 = true then (if 1 ≤ (x0.size : Int) then (steelyardref06_Parse.j1 k (x0.extract 1 x0.size) x3) else (none)) else (steelyardref06_Parse.j1 k x0 x3)
def steelyardref06_Parse.j1 : Nat → ByteArray → Bool → Option (Bool × List Int × Bool)
  | 0, _, _ => none
  | k + 1, x0, x3 => (steelyardref05_Parse.f k x0).bind fun bt474 => (if bt474.2 = true then (if x3 = true then (if (bt474.1.length : Int) = 0 then (some (false, ([] : List Int), false)) else ((steelyardref06_Make.f k x3 bt474.1).bind fun bt479 => (some (bt479.1, bt479.2, true)))) else ((steelyardref06_Make.f k x3 bt474.1).bind fun bt483 => (some (bt483.1, bt483.2, true)))) else (some (false, ([] : List Int), false)))
end
def steelyardref06_Parse.f (k : Nat) (a0 : ByteArray) : Option (Bool × List Int × Bool) := if (a0.size : Int) > 0 then (if 0 < (a0.size : Int) then (steelyardref06_Parse.j0 k a0 ((bt a0 0) == 45)) else (none)) else (steelyardref06_Parse.j0 k a0 false)
theorem steelyardref06_Parse.mono_l : ∀ k, (∀ y0 y1, LeO (steelyardref06_Parse.j0 k y0 y1) (steelyardref06_Parse.j0 (k + 1) y0 y1)) ∧ (∀ y0 y1, LeO (steelyardref06_Parse.j1 k y0 y1) (steelyardref06_Parse.j1 (k + 1) y0 y1))
  | 0 => ⟨fun _ _ r h => by simp [steelyardref06_Parse.j0] at h, fun _ _ r h => by simp [steelyardref06_Parse.j1] at h⟩
  | k + 1 => by
    obtain ⟨ih0, ih1⟩ := steelyardref06_Parse.mono_l k
    refine ⟨?_, ?_⟩
    · intro y0 y1
      unfold steelyardref06_Parse.j0
      repeat' first
      | (with_reducible exact ih0 _ _)
      | (with_reducible exact ih1 _ _)
      | (with_reducible exact steelyardref05_Parse.mono _ _)
      | (with_reducible exact steelyardref06_Make.mono _ _ _)
      | (with_reducible exact LeO.refl _)
      | (with_reducible exact LeO.none _)
      | (with_reducible refine LeO.ite ?_ ?_)
      | (with_reducible refine LeO.bind ?_ (fun _ => ?_))
      | exact ih0 _ _
      | exact ih1 _ _
      | exact steelyardref05_Parse.mono _ _
      | exact steelyardref06_Make.mono _ _ _
      | exact LeO.none _
      | refine LeO.ite ?_ ?_
      | refine LeO.bind ?_ (fun _ => ?_)
    · intro y0 y1
      unfold steelyardref06_Parse.j1
      repeat' first
      | (with_reducible exact ih0 _ _)
      | (with_reducible exact ih1 _ _)
      | (with_reducible exact steelyardref05_Parse.mono _ _)
      | (with_reducible exact steelyardref06_Make.mono _ _ _)
      | (with_reducible exact LeO.refl _)
      | (with_reducible exact LeO.none _)
      | (with_reducible refine LeO.ite ?_ ?_)
      | (with_reducible refine LeO.bind ?_ (fun _ => ?_))
      | exact ih0 _ _
      | exact ih1 _ _
      | exact steelyardref05_Parse.mono _ _
      | exact steelyardref06_Make.mono _ _ _
      | exact LeO.none _
      | refine LeO.ite ?_ ?_
      | refine LeO.bind ?_ (fun _ => ?_)
theorem steelyardref06_Parse.mono : ∀ a0 k, LeO (steelyardref06_Parse.f k a0) (steelyardref06_Parse.f (k + 1) a0) := by
  intro a0 k
  obtain ⟨ih0, ih1⟩ := steelyardref06_Parse.mono_l k
  unfold steelyardref06_Parse.f
  repeat' first
      | (with_reducible exact ih0 _ _)
      | (with_reducible exact ih1 _ _)
      | (with_reducible exact steelyardref05_Parse.mono _ _)
      | (with_reducible exact steelyardref06_Make.mono _ _ _)
      | (with_reducible exact LeO.refl _)
      | (with_reducible exact LeO.none _)
      | (with_reducible refine LeO.ite ?_ ?_)
      | (with_reducible refine LeO.bind ?_ (fun _ => ?_))
      | exact ih0 _ _
      | exact ih1 _ _
      | exact steelyardref05_Parse.mono _ _
      | exact steelyardref06_Make.mono _ _ _
      | exact LeO.none _
      | refine LeO.ite ?_ ?_
      | refine LeO.bind ?_ (fun _ => ?_)
def steelyardref06_Trim.f (k : Nat) (a0_0 : Bool) (l0_1 : List Int) : Option (Bool × List Int) := (steelyardref06_Make.f k a0_0 l0_1).bind fun bt489 => (some (bt489.1, bt489.2))
theorem steelyardref06_Trim.mono : ∀ a0 a1 k, LeO (steelyardref06_Trim.f k a0 a1) (steelyardref06_Trim.f (k + 1) a0 a1) := by
  intro a0 a1 k
  unfold steelyardref06_Trim.f
  repeat' first
      | (with_reducible exact steelyardref06_Make.mono _ _ _)
      | (with_reducible exact LeO.refl _)
      | (with_reducible exact LeO.none _)
      | (with_reducible refine LeO.ite ?_ ?_)
      | (with_reducible refine LeO.bind ?_ (fun _ => ?_))
      | exact steelyardref06_Make.mono _ _ _
      | exact LeO.none _
      | refine LeO.ite ?_ ?_
      | refine LeO.bind ?_ (fun _ => ?_)
def steelyardref06_Add.f (k : Nat) (a0_0 : Bool) (l0_1 : List Int) (a1_0 : Bool) (l1_1 : List Int) : Option (Bool × List Int) := (steelyardref06_Trim.f k a0_0 l0_1).bind fun bt511 => ((steelyardref06_Trim.f k a1_0 l1_1).bind fun bt515 => (if (bt511.1 == bt515.1) = true then ((steelyardref01_Add.f k bt511.2 bt515.2).bind fun t521 => ((steelyardref06_Make.f k bt511.1 t521).bind fun bt524 => (some (bt524.1, bt524.2)))) else ((steelyardref01_Cmp.f k bt511.2 bt515.2).bind fun t528 => (if t528 ≥ 0 then ((steelyardref01_Sub.f k bt511.2 bt515.2).bind fun t529 => ((steelyardref06_Make.f k bt511.1 t529).bind fun bt532 => (some (bt532.1, bt532.2)))) else ((steelyardref01_Sub.f k bt515.2 bt511.2).bind fun t536 => ((steelyardref06_Make.f k bt515.1 t536).bind fun bt539 => (some (bt539.1, bt539.2))))))))
theorem steelyardref06_Add.mono : ∀ a0 a1 a2 a3 k, LeO (steelyardref06_Add.f k a0 a1 a2 a3) (steelyardref06_Add.f (k + 1) a0 a1 a2 a3) := by
  intro a0 a1 a2 a3 k
  unfold steelyardref06_Add.f
  repeat' first
      | (with_reducible exact steelyardref01_Add.mono _ _ _)
      | (with_reducible exact steelyardref01_Cmp.mono _ _ _)
      | (with_reducible exact steelyardref01_Sub.mono _ _ _)
      | (with_reducible exact steelyardref06_Make.mono _ _ _)
      | (with_reducible exact steelyardref06_Trim.mono _ _ _)
      | (with_reducible exact LeO.refl _)
      | (with_reducible exact LeO.none _)
      | (with_reducible refine LeO.ite ?_ ?_)
      | (with_reducible refine LeO.bind ?_ (fun _ => ?_))
      | exact steelyardref01_Add.mono _ _ _
      | exact steelyardref01_Cmp.mono _ _ _
      | exact steelyardref01_Sub.mono _ _ _
      | exact steelyardref06_Make.mono _ _ _
      | exact steelyardref06_Trim.mono _ _ _
      | exact LeO.none _
      | refine LeO.ite ?_ ?_
      | refine LeO.bind ?_ (fun _ => ?_)
def steelyardref06_Mul.f (k : Nat) (a0_0 : Bool) (l0_1 : List Int) (a1_0 : Bool) (l1_1 : List Int) : Option (Bool × List Int) := (steelyardref06_Trim.f k a0_0 l0_1).bind fun bt572 => ((steelyardref06_Trim.f k a1_0 l1_1).bind fun bt576 => ((steelyardref02_Of.f k l0_1 l1_1).bind fun t580 => ((steelyardref06_Make.f k (bt572.1 != bt576.1) t580).bind fun bt583 => (some (bt583.1, bt583.2)))))
theorem steelyardref06_Mul.mono : ∀ a0 a1 a2 a3 k, LeO (steelyardref06_Mul.f k a0 a1 a2 a3) (steelyardref06_Mul.f (k + 1) a0 a1 a2 a3) := by
  intro a0 a1 a2 a3 k
  unfold steelyardref06_Mul.f
  repeat' first
      | (with_reducible exact steelyardref02_Of.mono _ _ _)
      | (with_reducible exact steelyardref06_Make.mono _ _ _)
      | (with_reducible exact steelyardref06_Trim.mono _ _ _)
      | (with_reducible exact LeO.refl _)
      | (with_reducible exact LeO.none _)
      | (with_reducible refine LeO.ite ?_ ?_)
      | (with_reducible refine LeO.bind ?_ (fun _ => ?_))
      | exact steelyardref02_Of.mono _ _ _
      | exact steelyardref06_Make.mono _ _ _
      | exact steelyardref06_Trim.mono _ _ _
      | exact LeO.none _
      | refine LeO.ite ?_ ?_
      | refine LeO.bind ?_ (fun _ => ?_)
def steelyardref06_Neg.f (k : Nat) (a0_0 : Bool) (l0_1 : List Int) : Option (Bool × List Int) := (steelyardref06_Make.f k (!a0_0) l0_1).bind fun bt589 => (some (bt589.1, bt589.2))
theorem steelyardref06_Neg.mono : ∀ a0 a1 k, LeO (steelyardref06_Neg.f k a0 a1) (steelyardref06_Neg.f (k + 1) a0 a1) := by
  intro a0 a1 k
  unfold steelyardref06_Neg.f
  repeat' first
      | (with_reducible exact steelyardref06_Make.mono _ _ _)
      | (with_reducible exact LeO.refl _)
      | (with_reducible exact LeO.none _)
      | (with_reducible refine LeO.ite ?_ ?_)
      | (with_reducible refine LeO.bind ?_ (fun _ => ?_))
      | exact steelyardref06_Make.mono _ _ _
      | exact LeO.none _
      | refine LeO.ite ?_ ?_
      | refine LeO.bind ?_ (fun _ => ?_)
mutual
def steelyardref06_Cmp.j0 : Nat → Bool → Bool → List Int → Bool → List Int → Option (Int)
  | 0, _, _, _, _, _ => none
  | k + 1, x11, x604000, x604001, x605000, x605001 => if x11 = true then (some (-1)) else (if x604000 = true then (steelyardref06_Cmp.j1 k false x604000 x604001 x605000 x605001) else (steelyardref06_Cmp.j1 k x605000 x604000 x604001 x605000 x605001))
def steelyardref06_Cmp.j1 : Nat → Bool → Bool → List Int → Bool → List Int → Option (Int)
  | 0, _, _, _, _, _ => none
  | k + 1, x19, x604000, x604001, x605000, x605001 => if x19 = true then (some 1) else (if x604000 = true then ((steelyardref01_Cmp.f k x605001 x604001).bind fun t605 => (some t605)) else ((steelyardref01_Cmp.f k x604001 x605001).bind fun t606 => (some t606)))
end
def steelyardref06_Cmp.f (k : Nat) (a0_0 : Bool) (l0_1 : List Int) (a1_0 : Bool) (l1_1 : List Int) : Option (Int) := (steelyardref06_Trim.f k a0_0 l0_1).bind fun bt595 => ((steelyardref06_Trim.f k a1_0 l1_1).bind fun bt599 => (if bt595.1 = true then (steelyardref06_Cmp.j0 k (!bt599.1) bt595.1 bt595.2 bt599.1 bt599.2) else (steelyardref06_Cmp.j0 k false bt595.1 bt595.2 bt599.1 bt599.2)))
theorem steelyardref06_Cmp.mono_l : ∀ k, (∀ y0 y1 y2 y3 y4, LeO (steelyardref06_Cmp.j0 k y0 y1 y2 y3 y4) (steelyardref06_Cmp.j0 (k + 1) y0 y1 y2 y3 y4)) ∧ (∀ y0 y1 y2 y3 y4, LeO (steelyardref06_Cmp.j1 k y0 y1 y2 y3 y4) (steelyardref06_Cmp.j1 (k + 1) y0 y1 y2 y3 y4))
  | 0 => ⟨fun _ _ _ _ _ r h => by simp [steelyardref06_Cmp.j0] at h, fun _ _ _ _ _ r h => by simp [steelyardref06_Cmp.j1] at h⟩
  | k + 1 => by
    obtain ⟨ih0, ih1⟩ := steelyardref06_Cmp.mono_l k
    refine ⟨?_, ?_⟩
    · intro y0 y1 y2 y3 y4
      unfold steelyardref06_Cmp.j0
      repeat' first
      | (with_reducible exact ih0 _ _ _ _ _)
      | (with_reducible exact ih1 _ _ _ _ _)
      | (with_reducible exact steelyardref01_Cmp.mono _ _ _)
      | (with_reducible exact steelyardref06_Trim.mono _ _ _)
      | (with_reducible exact LeO.refl _)
      | (with_reducible exact LeO.none _)
      | (with_reducible refine LeO.ite ?_ ?_)
      | (with_reducible refine LeO.bind ?_ (fun _ => ?_))
      | exact ih0 _ _ _ _ _
      | exact ih1 _ _ _ _ _
      | exact steelyardref01_Cmp.mono _ _ _
      | exact steelyardref06_Trim.mono _ _ _
      | exact LeO.none _
      | refine LeO.ite ?_ ?_
      | refine LeO.bind ?_ (fun _ => ?_)
    · intro y0 y1 y2 y3 y4
      unfold steelyardref06_Cmp.j1
      repeat' first
      | (with_reducible exact ih0 _ _ _ _ _)
      | (with_reducible exact ih1 _ _ _ _ _)
      | (with_reducible exact steelyardref01_Cmp.mono _ _ _)
      | (with_reducible exact steelyardref06_Trim.mono _ _ _)
      | (with_reducible exact LeO.refl _)
      | (with_reducible exact LeO.none _)
      | (with_reducible refine LeO.ite ?_ ?_)
      | (with_reducible refine LeO.bind ?_ (fun _ => ?_))
      | exact ih0 _ _ _ _ _
      | exact ih1 _ _ _ _ _
      | exact steelyardref01_Cmp.mono _ _ _
      | exact steelyardref06_Trim.mono _ _ _
      | exact LeO.none _
      | refine LeO.ite ?_ ?_
      | refine LeO.bind ?_ (fun _ => ?_)
theorem steelyardref06_Cmp.mono : ∀ a0 a1 a2 a3 k, LeO (steelyardref06_Cmp.f k a0 a1 a2 a3) (steelyardref06_Cmp.f (k + 1) a0 a1 a2 a3) := by
  intro a0 a1 a2 a3 k
  obtain ⟨ih0, ih1⟩ := steelyardref06_Cmp.mono_l k
  unfold steelyardref06_Cmp.f
  repeat' first
      | (with_reducible exact ih0 _ _ _ _ _)
      | (with_reducible exact ih1 _ _ _ _ _)
      | (with_reducible exact steelyardref01_Cmp.mono _ _ _)
      | (with_reducible exact steelyardref06_Trim.mono _ _ _)
      | (with_reducible exact LeO.refl _)
      | (with_reducible exact LeO.none _)
      | (with_reducible refine LeO.ite ?_ ?_)
      | (with_reducible refine LeO.bind ?_ (fun _ => ?_))
      | exact ih0 _ _ _ _ _
      | exact ih1 _ _ _ _ _
      | exact steelyardref01_Cmp.mono _ _ _
      | exact steelyardref06_Trim.mono _ _ _
      | exact LeO.none _
      | refine LeO.ite ?_ ?_
      | refine LeO.bind ?_ (fun _ => ?_)
def steelyardref06_Text.f (k : Nat) (a0_0 : Bool) (l0_1 : List Int) : Option (ByteArray) := (steelyardref06_Trim.f k a0_0 l0_1).bind fun bt633 => (if bt633.1 = true then ((steelyardref05_Text.f k l0_1).bind fun t637 => (if 1 + t637.size ≤ 9223372036854775807 then (some ((⟨#[45]⟩ : ByteArray) ++ t637)) else (none))) else ((steelyardref05_Text.f k l0_1).bind fun t638 => (some t638)))
theorem steelyardref06_Text.mono : ∀ a0 a1 k, LeO (steelyardref06_Text.f k a0 a1) (steelyardref06_Text.f (k + 1) a0 a1) := by
  intro a0 a1 k
  unfold steelyardref06_Text.f
  repeat' first
      | (with_reducible exact steelyardref05_Text.mono _ _)
      | (with_reducible exact steelyardref06_Trim.mono _ _ _)
      | (with_reducible exact LeO.refl _)
      | (with_reducible exact LeO.none _)
      | (with_reducible refine LeO.ite ?_ ?_)
      | (with_reducible refine LeO.bind ?_ (fun _ => ?_))
      | exact steelyardref05_Text.mono _ _
      | exact steelyardref06_Trim.mono _ _ _
      | exact LeO.none _
      | refine LeO.ite ?_ ?_
      | refine LeO.bind ?_ (fun _ => ?_)
def steelyardref06_Of.f (k : Nat) (a0 : Int) : Option (Bool × List Int) := if a0 < 0 then ((steelyardref01_Of.f k (IntKind.u64.wrap ((IntKind.u64.wrap (wrap64 (-(wrap64 (a0 + 1))))) + 1))).bind fun t646 => ((steelyardref06_Make.f k true t646).bind fun bt649 => (some (bt649.1, bt649.2)))) else ((steelyardref01_Of.f k (IntKind.u64.wrap (a0))).bind fun t653 => ((steelyardref06_Make.f k false t653).bind fun bt656 => (some (bt656.1, bt656.2))))
theorem steelyardref06_Of.mono : ∀ a0 k, LeO (steelyardref06_Of.f k a0) (steelyardref06_Of.f (k + 1) a0) := by
  intro a0 k
  unfold steelyardref06_Of.f
  repeat' first
      | (with_reducible exact steelyardref01_Of.mono _ _)
      | (with_reducible exact steelyardref06_Make.mono _ _ _)
      | (with_reducible exact LeO.refl _)
      | (with_reducible exact LeO.none _)
      | (with_reducible refine LeO.ite ?_ ?_)
      | (with_reducible refine LeO.bind ?_ (fun _ => ?_))
      | exact steelyardref01_Of.mono _ _
      | exact steelyardref06_Make.mono _ _ _
      | exact LeO.none _
      | refine LeO.ite ?_ ?_
      | refine LeO.bind ?_ (fun _ => ?_)
end Go.Proofs.YtnilfndadahgaaaDoor.P
set_option linter.unusedVariables false
set_option linter.unusedSimpArgs false
namespace Go.Proofs.YtnilfndadahgaaaDoor.P
open Go.RowKit Go.Proofs.YtnilfndadahgaaaDoorW.PrintWords Go.Proofs.YtnilfndadahgaaaDoorW.PrintLast Go.Proofs.YtnilfndadahgaaaDoorW.PrintMore
def whole_made.f (k : Nat) (a0 : Bool) (l1 : List Int) : Option (Bool × List Int) := if 0 ≤ (l1.length : Int) then (if ((l1.length : Int) : Int).toNat ≤ 70368744177664 then ((nat_Trim.f k (cpy (List.replicate ((l1.length : Int) : Int).toNat 0) 0 l1)).bind fun t186 => (if a0 = true then (some (decide ((t186.length : Int) > 0), t186)) else (some (false, t186)))) else (none)) else (none)
theorem whole_made.mono : ∀ a0 a1 k, LeO (whole_made.f k a0 a1) (whole_made.f (k + 1) a0 a1) := by
  intro a0 a1 k
  unfold whole_made.f
  repeat' first
      | (with_reducible exact nat_Trim.mono _ _)
      | (with_reducible exact LeO.refl _)
      | (with_reducible exact LeO.none _)
      | (with_reducible refine LeO.ite ?_ ?_)
      | (with_reducible refine LeO.bind ?_ (fun _ => ?_))
      | exact nat_Trim.mono _ _
      | exact LeO.none _
      | refine LeO.ite ?_ ?_
      | refine LeO.bind ?_ (fun _ => ?_)
def whole_Parse.f (k : Nat) (a0 : ByteArray) : Option (Bool × List Int × Bool) := (strings_CutPrefix.f a0 (⟨#[45]⟩ : ByteArray)).bind fun bt190 => ((digits_Parse.f k bt190.1).bind fun bt192 => (if bt192.2 = true then (if bt190.2 = true then (if (bt192.1.length : Int) = 0 then (some (false, ([] : List Int), false)) else ((whole_made.f k bt190.2 bt192.1).bind fun bt196 => (some (bt196.1, bt196.2, true)))) else ((whole_made.f k bt190.2 bt192.1).bind fun bt200 => (some (bt200.1, bt200.2, true)))) else (some (false, ([] : List Int), false))))
theorem whole_Parse.mono : ∀ a0 k, LeO (whole_Parse.f k a0) (whole_Parse.f (k + 1) a0) := by
  intro a0 k
  unfold whole_Parse.f
  repeat' first
      | (with_reducible exact digits_Parse.mono _ _)
      | (with_reducible exact whole_made.mono _ _ _)
      | (with_reducible exact LeO.refl _)
      | (with_reducible exact LeO.none _)
      | (with_reducible refine LeO.ite ?_ ?_)
      | (with_reducible refine LeO.bind ?_ (fun _ => ?_))
      | exact digits_Parse.mono _ _
      | exact whole_made.mono _ _ _
      | exact LeO.none _
      | refine LeO.ite ?_ ?_
      | refine LeO.bind ?_ (fun _ => ?_)
def whole_Trim.f (k : Nat) (a0_0 : Bool) (l0_1 : List Int) : Option (Bool × List Int) := (whole_made.f k a0_0 l0_1).bind fun bt211 => (some (bt211.1, bt211.2))
theorem whole_Trim.mono : ∀ a0 a1 k, LeO (whole_Trim.f k a0 a1) (whole_Trim.f (k + 1) a0 a1) := by
  intro a0 a1 k
  unfold whole_Trim.f
  repeat' first
      | (with_reducible exact whole_made.mono _ _ _)
      | (with_reducible exact LeO.refl _)
      | (with_reducible exact LeO.none _)
      | (with_reducible refine LeO.ite ?_ ?_)
      | (with_reducible refine LeO.bind ?_ (fun _ => ?_))
      | exact whole_made.mono _ _ _
      | exact LeO.none _
      | refine LeO.ite ?_ ?_
      | refine LeO.bind ?_ (fun _ => ?_)
def whole_Add.f (k : Nat) (a0_0 : Bool) (l0_1 : List Int) (a1_0 : Bool) (l1_1 : List Int) : Option (Bool × List Int) := (whole_Trim.f k a0_0 l0_1).bind fun bt240 => ((whole_Trim.f k a1_0 l1_1).bind fun bt244 => (if (bt240.1 == bt244.1) = true then ((nat_Add.f k bt240.2 bt244.2).bind fun t248 => ((whole_made.f k bt240.1 t248).bind fun bt251 => (some (bt251.1, bt251.2)))) else ((nat_Sub.f k bt240.2 bt244.2).bind fun bt255 => (if bt255.2 = true then ((whole_made.f k bt240.1 bt255.1).bind fun bt259 => (some (bt259.1, bt259.2))) else ((nat_Sub.f k bt244.2 bt240.2).bind fun bt263 => ((whole_made.f k bt244.1 bt263.1).bind fun bt267 => (some (bt267.1, bt267.2))))))))
theorem whole_Add.mono : ∀ a0 a1 a2 a3 k, LeO (whole_Add.f k a0 a1 a2 a3) (whole_Add.f (k + 1) a0 a1 a2 a3) := by
  intro a0 a1 a2 a3 k
  unfold whole_Add.f
  repeat' first
      | (with_reducible exact nat_Add.mono _ _ _)
      | (with_reducible exact nat_Sub.mono _ _ _)
      | (with_reducible exact whole_Trim.mono _ _ _)
      | (with_reducible exact whole_made.mono _ _ _)
      | (with_reducible exact LeO.refl _)
      | (with_reducible exact LeO.none _)
      | (with_reducible refine LeO.ite ?_ ?_)
      | (with_reducible refine LeO.bind ?_ (fun _ => ?_))
      | exact nat_Add.mono _ _ _
      | exact nat_Sub.mono _ _ _
      | exact whole_Trim.mono _ _ _
      | exact whole_made.mono _ _ _
      | exact LeO.none _
      | refine LeO.ite ?_ ?_
      | refine LeO.bind ?_ (fun _ => ?_)
def whole_Mul.f (k : Nat) (a0_0 : Bool) (l0_1 : List Int) (a1_0 : Bool) (l1_1 : List Int) : Option (Bool × List Int) := (mul_Of.f k l0_1 l1_1).bind fun t274 => ((whole_made.f k (a0_0 != a1_0) t274).bind fun bt277 => (some (bt277.1, bt277.2)))
theorem whole_Mul.mono : ∀ a0 a1 a2 a3 k, LeO (whole_Mul.f k a0 a1 a2 a3) (whole_Mul.f (k + 1) a0 a1 a2 a3) := by
  intro a0 a1 a2 a3 k
  unfold whole_Mul.f
  repeat' first
      | (with_reducible exact mul_Of.mono _ _ _)
      | (with_reducible exact whole_made.mono _ _ _)
      | (with_reducible exact LeO.refl _)
      | (with_reducible exact LeO.none _)
      | (with_reducible refine LeO.ite ?_ ?_)
      | (with_reducible refine LeO.bind ?_ (fun _ => ?_))
      | exact mul_Of.mono _ _ _
      | exact whole_made.mono _ _ _
      | exact LeO.none _
      | refine LeO.ite ?_ ?_
      | refine LeO.bind ?_ (fun _ => ?_)
def whole_Neg.f (k : Nat) (a0_0 : Bool) (l0_1 : List Int) : Option (Bool × List Int) := (whole_made.f k (!a0_0) l0_1).bind fun bt283 => (some (bt283.1, bt283.2))
theorem whole_Neg.mono : ∀ a0 a1 k, LeO (whole_Neg.f k a0 a1) (whole_Neg.f (k + 1) a0 a1) := by
  intro a0 a1 k
  unfold whole_Neg.f
  repeat' first
      | (with_reducible exact whole_made.mono _ _ _)
      | (with_reducible exact LeO.refl _)
      | (with_reducible exact LeO.none _)
      | (with_reducible refine LeO.ite ?_ ?_)
      | (with_reducible refine LeO.bind ?_ (fun _ => ?_))
      | exact whole_made.mono _ _ _
      | exact LeO.none _
      | refine LeO.ite ?_ ?_
      | refine LeO.bind ?_ (fun _ => ?_)
mutual
def whole_Cmp.j0 : Nat → Bool → Bool → List Int → Bool → List Int → Option (Int)
  | 0, _, _, _, _, _ => none
  | k + 1, x9, x288000, x288001, x289000, x289001 => if x9 = true then (some (-1)) else (if x289000 = true then (whole_Cmp.j1 k (!x288000) x288000 x288001 x289000 x289001) else (whole_Cmp.j1 k false x288000 x288001 x289000 x289001))
def whole_Cmp.j1 : Nat → Bool → Bool → List Int → Bool → List Int → Option (Int)
  | 0, _, _, _, _, _ => none
  | k + 1, x17, x288000, x288001, x289000, x289001 => if x17 = true then (some 1) else (if x288000 = true then ((nat_Cmp.f k x289001 x288001).bind fun t297 => (some t297)) else ((nat_Cmp.f k x288001 x289001).bind fun t298 => (some t298)))
end
def whole_Cmp.f (k : Nat) (a0_0 : Bool) (l0_1 : List Int) (a1_0 : Bool) (l1_1 : List Int) : Option (Int) := (whole_Trim.f k a0_0 l0_1).bind fun bt289 => ((whole_Trim.f k a1_0 l1_1).bind fun bt293 => (if bt289.1 = true then (whole_Cmp.j0 k (!bt293.1) bt289.1 bt289.2 bt293.1 bt293.2) else (whole_Cmp.j0 k false bt289.1 bt289.2 bt293.1 bt293.2)))
theorem whole_Cmp.mono_l : ∀ k, (∀ y0 y1 y2 y3 y4, LeO (whole_Cmp.j0 k y0 y1 y2 y3 y4) (whole_Cmp.j0 (k + 1) y0 y1 y2 y3 y4)) ∧ (∀ y0 y1 y2 y3 y4, LeO (whole_Cmp.j1 k y0 y1 y2 y3 y4) (whole_Cmp.j1 (k + 1) y0 y1 y2 y3 y4))
  | 0 => ⟨fun _ _ _ _ _ r h => by simp [whole_Cmp.j0] at h, fun _ _ _ _ _ r h => by simp [whole_Cmp.j1] at h⟩
  | k + 1 => by
    obtain ⟨ih0, ih1⟩ := whole_Cmp.mono_l k
    refine ⟨?_, ?_⟩
    · intro y0 y1 y2 y3 y4
      unfold whole_Cmp.j0
      repeat' first
      | (with_reducible exact ih0 _ _ _ _ _)
      | (with_reducible exact ih1 _ _ _ _ _)
      | (with_reducible exact nat_Cmp.mono _ _ _)
      | (with_reducible exact whole_Trim.mono _ _ _)
      | (with_reducible exact LeO.refl _)
      | (with_reducible exact LeO.none _)
      | (with_reducible refine LeO.ite ?_ ?_)
      | (with_reducible refine LeO.bind ?_ (fun _ => ?_))
      | exact ih0 _ _ _ _ _
      | exact ih1 _ _ _ _ _
      | exact nat_Cmp.mono _ _ _
      | exact whole_Trim.mono _ _ _
      | exact LeO.none _
      | refine LeO.ite ?_ ?_
      | refine LeO.bind ?_ (fun _ => ?_)
    · intro y0 y1 y2 y3 y4
      unfold whole_Cmp.j1
      repeat' first
      | (with_reducible exact ih0 _ _ _ _ _)
      | (with_reducible exact ih1 _ _ _ _ _)
      | (with_reducible exact nat_Cmp.mono _ _ _)
      | (with_reducible exact whole_Trim.mono _ _ _)
      | (with_reducible exact LeO.refl _)
      | (with_reducible exact LeO.none _)
      | (with_reducible refine LeO.ite ?_ ?_)
      | (with_reducible refine LeO.bind ?_ (fun _ => ?_))
      | exact ih0 _ _ _ _ _
      | exact ih1 _ _ _ _ _
      | exact nat_Cmp.mono _ _ _
      | exact whole_Trim.mono _ _ _
      | exact LeO.none _
      | refine LeO.ite ?_ ?_
      | refine LeO.bind ?_ (fun _ => ?_)
theorem whole_Cmp.mono : ∀ a0 a1 a2 a3 k, LeO (whole_Cmp.f k a0 a1 a2 a3) (whole_Cmp.f (k + 1) a0 a1 a2 a3) := by
  intro a0 a1 a2 a3 k
  obtain ⟨ih0, ih1⟩ := whole_Cmp.mono_l k
  unfold whole_Cmp.f
  repeat' first
      | (with_reducible exact ih0 _ _ _ _ _)
      | (with_reducible exact ih1 _ _ _ _ _)
      | (with_reducible exact nat_Cmp.mono _ _ _)
      | (with_reducible exact whole_Trim.mono _ _ _)
      | (with_reducible exact LeO.refl _)
      | (with_reducible exact LeO.none _)
      | (with_reducible refine LeO.ite ?_ ?_)
      | (with_reducible refine LeO.bind ?_ (fun _ => ?_))
      | exact ih0 _ _ _ _ _
      | exact ih1 _ _ _ _ _
      | exact nat_Cmp.mono _ _ _
      | exact whole_Trim.mono _ _ _
      | exact LeO.none _
      | refine LeO.ite ?_ ?_
      | refine LeO.bind ?_ (fun _ => ?_)
def whole_Text.f (k : Nat) (a0_0 : Bool) (l0_1 : List Int) : Option (ByteArray) := (whole_Trim.f k a0_0 l0_1).bind fun bt332 => (if bt332.1 = true then ((digits_Text.f k bt332.2).bind fun t336 => (if 1 + t336.size ≤ 9223372036854775807 then (some ((⟨#[45]⟩ : ByteArray) ++ t336)) else (none))) else ((digits_Text.f k bt332.2).bind fun t337 => (some t337)))
theorem whole_Text.mono : ∀ a0 a1 k, LeO (whole_Text.f k a0 a1) (whole_Text.f (k + 1) a0 a1) := by
  intro a0 a1 k
  unfold whole_Text.f
  repeat' first
      | (with_reducible exact digits_Text.mono _ _)
      | (with_reducible exact whole_Trim.mono _ _ _)
      | (with_reducible exact LeO.refl _)
      | (with_reducible exact LeO.none _)
      | (with_reducible refine LeO.ite ?_ ?_)
      | (with_reducible refine LeO.bind ?_ (fun _ => ?_))
      | exact digits_Text.mono _ _
      | exact whole_Trim.mono _ _ _
      | exact LeO.none _
      | refine LeO.ite ?_ ?_
      | refine LeO.bind ?_ (fun _ => ?_)
def whole_Of.f (k : Nat) (a0 : Int) : Option (Bool × List Int) := if a0 < 0 then ((nat_Of.f k (IntKind.u64.wrap (-(IntKind.u64.wrap (a0))))).bind fun t339 => ((whole_made.f k true t339).bind fun bt342 => (some (bt342.1, bt342.2)))) else ((nat_Of.f k (IntKind.u64.wrap (a0))).bind fun t346 => ((whole_made.f k false t346).bind fun bt349 => (some (bt349.1, bt349.2))))
theorem whole_Of.mono : ∀ a0 k, LeO (whole_Of.f k a0) (whole_Of.f (k + 1) a0) := by
  intro a0 k
  unfold whole_Of.f
  repeat' first
      | (with_reducible exact nat_Of.mono _ _)
      | (with_reducible exact whole_made.mono _ _ _)
      | (with_reducible exact LeO.refl _)
      | (with_reducible exact LeO.none _)
      | (with_reducible refine LeO.ite ?_ ?_)
      | (with_reducible refine LeO.bind ?_ (fun _ => ?_))
      | exact nat_Of.mono _ _
      | exact whole_made.mono _ _ _
      | exact LeO.none _
      | refine LeO.ite ?_ ?_
      | refine LeO.bind ?_ (fun _ => ?_)
end Go.Proofs.YtnilfndadahgaaaDoor.P
set_option linter.unusedVariables false
set_option linter.unusedSimpArgs false
namespace Go.Proofs.YtnilfndadahgaaaDoor.P
open Go.RowKit Go.Proofs.YtnilfndadahgaaaDoorW.PrintWords Go.Proofs.YtnilfndadahgaaaDoorW.PrintLast Go.Proofs.YtnilfndadahgaaaDoorW.PrintMore
def steelyardlaw06_Long.f (a0_0 : Bool) (l0_1 : List Int) : Option (Bool) := some (decide ((l0_1.length : Int) > 60))
def steelyardlaw06_wakes.f (k : Nat)  : Option (Bool) := (whole_Of.f k (-9223372036854775808)).bind fun bt353 => ((whole_Parse.f k (⟨#[45, 49, 50]⟩ : ByteArray)).bind fun bt358 => ((whole_Parse.f k (⟨#[45, 48]⟩ : ByteArray)).bind fun bt364 => ((whole_Trim.f k true (([0] : List Int))).bind fun bt373 => ((whole_Text.f k bt353.1 bt353.2).bind fun t378 => (if t378.toList = ([45, 57, 50, 50, 51, 51, 55, 50, 48, 51, 54, 56, 53, 52, 55, 55, 53, 56, 48, 56] : List UInt8) then (if bt358.2.2 = true then ((steelyardkeep_Int.f k bt358.1 bt358.2.1 true (([12] : List Int))).bind fun t382 => (if t382 = true then (if bt364.2.2 = true then (none) else (if bt373.1 = true then (none) else (if (bt373.2.length : Int) = 0 then ((whole_Of.f k (-13)).bind fun bt383 => ((whole_Cmp.f k bt358.1 bt358.2.1 bt383.1 bt383.2).bind fun t387 => (if t387 = 1 then ((whole_Of.f k 12).bind fun bt388 => ((whole_Add.f k bt358.1 bt358.2.1 bt388.1 bt388.2).bind fun bt392 => ((steelyardkeep_Int.f k bt392.1 bt392.2 bt373.1 bt373.2).bind fun t396 => (if t396 = true then ((whole_Mul.f k bt358.1 bt358.2.1 bt358.1 bt358.2.1).bind fun bt397 => ((whole_Of.f k 144).bind fun bt401 => ((steelyardkeep_Int.f k bt397.1 bt397.2 bt401.1 bt401.2).bind fun t405 => (if t405 = true then ((whole_Neg.f k bt358.1 bt358.2.1).bind fun bt406 => ((whole_Text.f k bt406.1 bt406.2).bind fun t410 => (some (t410.toList == ([49, 50] : List UInt8))))) else (none))))) else (none))))) else (none)))) else (none)))) else (none))) else (none)) else (none))))))
theorem steelyardlaw06_wakes.mono : ∀ k, LeO (steelyardlaw06_wakes.f k ) (steelyardlaw06_wakes.f (k + 1) ) := by
  intro  k
  unfold steelyardlaw06_wakes.f
  repeat' first
      | (with_reducible exact steelyardkeep_Int.mono _ _ _ _ _)
      | (with_reducible exact whole_Add.mono _ _ _ _ _)
      | (with_reducible exact whole_Cmp.mono _ _ _ _ _)
      | (with_reducible exact whole_Mul.mono _ _ _ _ _)
      | (with_reducible exact whole_Neg.mono _ _ _)
      | (with_reducible exact whole_Of.mono _ _)
      | (with_reducible exact whole_Parse.mono _ _)
      | (with_reducible exact whole_Text.mono _ _ _)
      | (with_reducible exact whole_Trim.mono _ _ _)
      | (with_reducible exact LeO.refl _)
      | (with_reducible exact LeO.none _)
      | (with_reducible refine LeO.ite ?_ ?_)
      | (with_reducible refine LeO.bind ?_ (fun _ => ?_))
      | exact steelyardkeep_Int.mono _ _ _ _ _
      | exact whole_Add.mono _ _ _ _ _
      | exact whole_Cmp.mono _ _ _ _ _
      | exact whole_Mul.mono _ _ _ _ _
      | exact whole_Neg.mono _ _ _
      | exact whole_Of.mono _ _
      | exact whole_Parse.mono _ _
      | exact whole_Text.mono _ _ _
      | exact whole_Trim.mono _ _ _
      | exact LeO.none _
      | refine LeO.ite ?_ ?_
      | refine LeO.bind ?_ (fun _ => ?_)
end Go.Proofs.YtnilfndadahgaaaDoor.P

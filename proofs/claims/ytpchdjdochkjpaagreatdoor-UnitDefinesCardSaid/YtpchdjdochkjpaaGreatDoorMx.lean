/- Plain functions: what the Go functions of a package come to. · Plain functions: what the Go functions of a package come to. · Plain functions: what the Go functions of a package come to. · Plain functions: what the Go functions of a package come to. · Plain functions: what the Go functions of a package come to. · Plain functions: what the Go functions of a package come to. · Plain functions: what the Go functions of a package come to. · Plain functions: what the Go functions of a package come to. · Plain functions: what the Go functions of a package come to. · Plain functions: what the Go functions of a package come to. · Plain functions: what the Go functions of a package come to. · Plain functions: what the Go functions of a package come to. · Plain functions: what the Go functions of a package come to. · Plain functions: what the Go functions of a package come to. · Plain functions: what the Go functions of a package come to. · Plain functions: what the Go functions of a package come to. · Plain functions: what the Go functions of a package come to. · Plain functions: what the Go functions of a package come to. · Plain functions: what the Go functions of a package come to. · Plain functions: what the Go functions of a package come to. · Plain functions: what the Go functions of a package come to. · Plain functions: what the Go functions of a package come to. · Plain functions: what the Go functions of a package come to. · Plain functions: what the Go functions of a package come to. -/
import Derived.Test.YtpchdjdochkjpaaGreatDoorYWords
import Derived.Lib.Strings
import Derived.Lib.CutLaws
import Derived.Lib.Repeat
set_option linter.unusedVariables false
set_option linter.unusedSimpArgs false
namespace Go.Proofs.YtpchdjdochkjpaaGreatDoor.P
open Go.RowKit Go.Proofs.YtpchdjdochkjpaaGreatDoorW.PrintWords Go.Proofs.YtpchdjdochkjpaaGreatDoorW.PrintLast Go.Proofs.YtpchdjdochkjpaaGreatDoorW.PrintMore
def dim_Good.f (d : Dm) : Option Bool := if d.d0 < (-200) then (some false) else (if d.d0 > 200 then (some false) else (if d.d1 < (-200) then (some false) else (if d.d1 > 200 then (some false) else (if d.d2 < (-200) then (some false) else (if d.d2 > 200 then (some false) else (if d.d3 < (-200) then (some false) else (if d.d3 > 200 then (some false) else (if d.d4 < (-200) then (some false) else (if d.d4 > 200 then (some false) else (if d.d5 < (-200) then (some false) else (if d.d5 > 200 then (some false) else (if d.d6 < (-200) then (some false) else (if d.d6 > 200 then (some false) else (some true))))))))))))))
def dim_told.f (d : Dm) : Option (Dm × Int) := (dim_Good.f d).bind fun t => (if t = true then (some (d, 0)) else (some (⟨0, 0, 0, 0, 0, 0, 0⟩, 2)))
def dim_Pow.f (a : Dm) (n : Int) : Option (Dm × Int) := (dim_Good.f a).bind fun t => (if t = true then (if ((decide (a.d0 = 0) && (decide (a.d1 = 0) && (decide (a.d2 = 0) && (decide (a.d3 = 0) && (decide (a.d4 = 0) && (decide (a.d5 = 0) && (decide (a.d6 = 0))))))))) = true then (some (a, 0)) else (if n < (-200) then (some (⟨0, 0, 0, 0, 0, 0, 0⟩, 2)) else (if n > 200 then (some (⟨0, 0, 0, 0, 0, 0, 0⟩, 2)) else ((dim_told.f ⟨wrap64 (a.d0 * n), wrap64 (a.d1 * n), wrap64 (a.d2 * n), wrap64 (a.d3 * n), wrap64 (a.d4 * n), wrap64 (a.d5 * n), wrap64 (a.d6 * n)⟩).bind fun z => (some (z.1, z.2)))))) else (some (⟨0, 0, 0, 0, 0, 0, 0⟩, 1)))
def dim_Mul.f (a b : Dm) : Option (Dm × Int) := (dim_Good.f a).bind fun t => (if t = true then ((dim_Good.f b).bind fun q => (if q = true then ((dim_told.f ⟨wrap64 (a.d0 + b.d0), wrap64 (a.d1 + b.d1), wrap64 (a.d2 + b.d2), wrap64 (a.d3 + b.d3), wrap64 (a.d4 + b.d4), wrap64 (a.d5 + b.d5), wrap64 (a.d6 + b.d6)⟩).bind fun z => (some (z.1, z.2))) else (some (⟨0, 0, 0, 0, 0, 0, 0⟩, 1)))) else (some (⟨0, 0, 0, 0, 0, 0, 0⟩, 1)))
def dim_Div.f (a b : Dm) : Option (Dm × Int) := (dim_Good.f a).bind fun t => (if t = true then ((dim_Good.f b).bind fun q => (if q = true then ((dim_told.f ⟨wrap64 (a.d0 - b.d0), wrap64 (a.d1 - b.d1), wrap64 (a.d2 - b.d2), wrap64 (a.d3 - b.d3), wrap64 (a.d4 - b.d4), wrap64 (a.d5 - b.d5), wrap64 (a.d6 - b.d6)⟩).bind fun z => (some (z.1, z.2))) else (some (⟨0, 0, 0, 0, 0, 0, 0⟩, 1)))) else (some (⟨0, 0, 0, 0, 0, 0, 0⟩, 1)))
end Go.Proofs.YtpchdjdochkjpaaGreatDoor.P
set_option linter.unusedVariables false
set_option linter.unusedSimpArgs false
namespace Go.Proofs.YtpchdjdochkjpaaGreatDoor.P
open Go.RowKit Go.Proofs.YtpchdjdochkjpaaGreatDoorW.PrintWords Go.Proofs.YtpchdjdochkjpaaGreatDoorW.PrintLast Go.Proofs.YtpchdjdochkjpaaGreatDoorW.PrintMore
def cmp_isNaN_int.f (a0 : Int) : Option (Bool) := some (a0 != a0)
def cmp_Compare_int.f (a0 : Int) (a1 : Int) : Option (Int) := (cmp_isNaN_int.f a0).bind fun t745 => ((cmp_isNaN_int.f a1).bind fun t746 => (if t745 = true then (if t746 = true then (some 0) else (some (-1))) else (if t746 = true then (some 1) else (if a0 < a1 then (some (-1)) else (if a0 > a1 then (some 1) else (some 0))))))
def cmp_isNaN_uint32.f (a0 : Int) : Option (Bool) := some (a0 != a0)
def cmp_Compare_uint32.f (a0 : Int) (a1 : Int) : Option (Int) := (cmp_isNaN_uint32.f a0).bind fun t747 => ((cmp_isNaN_uint32.f a1).bind fun t748 => (if t747 = true then (if t748 = true then (some 0) else (some (-1))) else (if t748 = true then (some 1) else (if a0 < a1 then (some (-1)) else (if a0 > a1 then (some 1) else (some 0))))))
def len8_ : ByteArray := ⟨(([0, 1, 2, 2, 3, 3, 3, 3, 4, 4, 4, 4, 4, 4, 4, 4, 5, 5, 5, 5, 5, 5, 5, 5, 5, 5, 5, 5, 5, 5, 5, 5, 6, 6, 6, 6, 6, 6, 6, 6, 6, 6, 6, 6, 6, 6, 6, 6, 6, 6, 6, 6, 6, 6, 6, 6, 6, 6, 6, 6, 6, 6, 6, 6].append [7, 7, 7, 7, 7, 7, 7, 7, 7, 7, 7, 7, 7, 7, 7, 7, 7, 7, 7, 7, 7, 7, 7, 7, 7, 7, 7, 7, 7, 7, 7, 7, 7, 7, 7, 7, 7, 7, 7, 7, 7, 7, 7, 7, 7, 7, 7, 7, 7, 7, 7, 7, 7, 7, 7, 7, 7, 7, 7, 7, 7, 7, 7, 7]).append ([8, 8, 8, 8, 8, 8, 8, 8, 8, 8, 8, 8, 8, 8, 8, 8, 8, 8, 8, 8, 8, 8, 8, 8, 8, 8, 8, 8, 8, 8, 8, 8, 8, 8, 8, 8, 8, 8, 8, 8, 8, 8, 8, 8, 8, 8, 8, 8, 8, 8, 8, 8, 8, 8, 8, 8, 8, 8, 8, 8, 8, 8, 8, 8].append [8, 8, 8, 8, 8, 8, 8, 8, 8, 8, 8, 8, 8, 8, 8, 8, 8, 8, 8, 8, 8, 8, 8, 8, 8, 8, 8, 8, 8, 8, 8, 8, 8, 8, 8, 8, 8, 8, 8, 8, 8, 8, 8, 8, 8, 8, 8, 8, 8, 8, 8, 8, 8, 8, 8, 8, 8, 8, 8, 8, 8, 8, 8, 8])).toArray⟩
def bits_Len32.f (a0 : Int) : Option (Int) := if a0 ≥ 65536 then (if (a0 / 65536) ≥ 256 then (if 0 ≤ (((a0 / 65536) / 256) % 256) then (if (((a0 / 65536) / 256) % 256) < 256 then (some (wrap64 ((16 + 8) + (wrap64 (bt len8_ (((a0 / 65536) / 256) % 256)))))) else (none)) else (none)) else (if 0 ≤ ((a0 / 65536) % 256) then (if ((a0 / 65536) % 256) < 256 then (some (wrap64 (16 + (wrap64 (bt len8_ ((a0 / 65536) % 256)))))) else (none)) else (none))) else (if a0 ≥ 256 then (if 0 ≤ ((a0 / 256) % 256) then (if ((a0 / 256) % 256) < 256 then (some (wrap64 ((0 + 8) + (wrap64 (bt len8_ ((a0 / 256) % 256)))))) else (none)) else (none)) else (if 0 ≤ ((a0) % 256) then (if ((a0) % 256) < 256 then (some (wrap64 (0 + (wrap64 (bt len8_ ((a0) % 256)))))) else (none)) else (none)))
def bits_LeadingZeros32.f (a0 : Int) : Option (Int) := (bits_Len32.f a0).bind fun t755 => (some (wrap64 (32 - t755)))
def bits_Sub32.f (a0 : Int) (a1 : Int) (a2 : Int) : Option (Int × Int) := some ((((a0 - a1) % 4294967296) - a2) % 4294967296, (Go.bits .or .u32 (Go.bits .and .u32 (Go.bits .xor .u32 4294967295 a0) a1) (Go.bits .and .u32 (Go.bits .xor .u32 4294967295 (Go.bits .xor .u32 a0 a1)) ((((a0 - a1) % 4294967296) - a2) % 4294967296))) / 2147483648)
def stringslite_HasPrefix.f (a0 : ByteArray) (a1 : ByteArray) : Option (Bool) := if (a0.size : Int) ≥ (a1.size : Int) then (if 0 ≤ (a1.size : Int) then (if (a1.size : Int) ≤ (a0.size : Int) then (some ((a0.extract 0 ((a1.size : Int) : Int).toNat).toList == a1.toList)) else (none)) else (none)) else (some false)
def strings_HasPrefix.f (a0 : ByteArray) (a1 : ByteArray) : Option (Bool) := (stringslite_HasPrefix.f a0 a1).bind fun t1130 => (some t1130)
def strings_Contains.f (a0 : ByteArray) (a1 : ByteArray) : Option (Bool) := if a1.size = 1 then some (decide (0 ≤ Go.Lib.indexByte a0.data.toList (a1.data.getD 0 0))) else none
end Go.Proofs.YtpchdjdochkjpaaGreatDoor.P
set_option linter.unusedVariables false
set_option linter.unusedSimpArgs false
namespace Go.Proofs.YtpchdjdochkjpaaGreatDoor.P
open Go.RowKit Go.Proofs.YtpchdjdochkjpaaGreatDoorW.PrintWords Go.Proofs.YtpchdjdochkjpaaGreatDoorW.PrintLast Go.Proofs.YtpchdjdochkjpaaGreatDoorW.PrintMore
def nat_used.l0 : Nat → List Int → Int → Option (Int)
 | 0, _, _ => none
 | k + 1, x0, x3 => if x3 > 0 then (if 0 ≤ (wrap64 (x3 - 1)) then (if (wrap64 (x3 - 1)) < (x0.length : Int) then (if (rd x0 (wrap64 (x3 - 1))) = 0 then (nat_used.l0 k x0 (wrap64 (x3 - 1))) else (some x3)) else (none)) else (none)) else (some x3)
def nat_used.f (k : Nat) (l0 : List Int) : Option (Int) := nat_used.l0 k l0 (l0.length : Int)
theorem nat_used.mono_l : ∀ k, (∀ y0 y1, LeO (nat_used.l0 k y0 y1) (nat_used.l0 (k + 1) y0 y1))
 | 0 => fun _ _ r h => by simp [nat_used.l0] at h
 | k + 1 => by
  have ih0 := nat_used.mono_l k
  ·intro y0 y1
   unfold nat_used.l0
   repeat' first | (with_reducible first | exact ih0 _ _ | exact LeO.refl _ | exact LeO.none _ | refine LeO.ite ?_ ?_ | refine LeO.bind ?_ (fun _ => ?_)) | exact LeO.none _ | refine LeO.ite ?_ ?_ | refine LeO.bind ?_ (fun _ => ?_)
theorem nat_used.mono : ∀ a0 k, LeO (nat_used.f k a0) (nat_used.f (k + 1) a0) := by
 intro a0 k
 have ih0 := nat_used.mono_l k
 unfold nat_used.f
 repeat' first | (with_reducible first | exact ih0 _ _ | exact LeO.refl _ | exact LeO.none _ | refine LeO.ite ?_ ?_ | refine LeO.bind ?_ (fun _ => ?_)) | exact LeO.none _ | refine LeO.ite ?_ ?_ | refine LeO.bind ?_ (fun _ => ?_)
def nat_Trim.f (k : Nat) (l0 : List Int) : Option (List Int) := (nat_used.f k l0).bind fun t733 => (if 0 ≤ t733 then (if (t733 : Int).toNat ≤ 70368744177664 then (some (cpy (List.replicate (t733 : Int).toNat 0) 0 l0)) else (none)) else (none))
theorem nat_Trim.mono : ∀ a0 k, LeO (nat_Trim.f k a0) (nat_Trim.f (k + 1) a0) := by
 intro a0 k
 unfold nat_Trim.f
 repeat' first | (with_reducible first | exact nat_used.mono _ _ | exact LeO.refl _ | exact LeO.none _ | refine LeO.ite ?_ ?_ | refine LeO.bind ?_ (fun _ => ?_)) | exact LeO.none _ | refine LeO.ite ?_ ?_ | refine LeO.bind ?_ (fun _ => ?_)
def nat_Of.f (k : Nat) (a0 : Int) : Option (List Int) := (nat_Trim.f k (([(a0) % 4294967296, (a0 / 4294967296) % 4294967296] : List Int))).bind fun t741 => (some t741)
theorem nat_Of.mono : ∀ a0 k, LeO (nat_Of.f k a0) (nat_Of.f (k + 1) a0) := by
 intro a0 k
 unfold nat_Of.f
 repeat' first | (with_reducible first | exact nat_Trim.mono _ _ | exact LeO.refl _ | exact LeO.none _ | refine LeO.ite ?_ ?_ | refine LeO.bind ?_ (fun _ => ?_)) | exact LeO.none _ | refine LeO.ite ?_ ?_ | refine LeO.bind ?_ (fun _ => ?_)
def nat_Cmp.l0 : Nat → List Int → List Int → Int → Option (Int)
 | 0, _, _, _ => none
 | k + 1, x0, x1, x7 => if x7 ≥ 0 then (if 0 ≤ x7 then (if x7 < (x0.length : Int) then (if x7 < (x1.length : Int) then ((cmp_Compare_uint32.f (rd x0 x7) (rd x1 x7)).bind fun t754 => (if t754 = 0 then (nat_Cmp.l0 k x0 x1 (wrap64 (x7 - 1))) else (some t754))) else (none)) else (none)) else (none)) else (some 0)
def nat_Cmp.f (k : Nat) (l0 : List Int) (l1 : List Int) : Option (Int) := (nat_used.f k l0).bind fun t749 => ((nat_used.f k l1).bind fun t750 => ((cmp_Compare_int.f t749 t750).bind fun t751 => (if t751 = 0 then (nat_Cmp.l0 k l0 l1 (wrap64 (t749 - 1))) else (some t751))))
theorem nat_Cmp.mono_l : ∀ k, (∀ y0 y1 y2, LeO (nat_Cmp.l0 k y0 y1 y2) (nat_Cmp.l0 (k + 1) y0 y1 y2))
 | 0 => fun _ _ _ r h => by simp [nat_Cmp.l0] at h
 | k + 1 => by
  have ih0 := nat_Cmp.mono_l k
  ·intro y0 y1 y2
   unfold nat_Cmp.l0
   repeat' first | (with_reducible first | exact ih0 _ _ _ | exact nat_used.mono _ _ | exact LeO.refl _ | exact LeO.none _ | refine LeO.ite ?_ ?_ | refine LeO.bind ?_ (fun _ => ?_)) | exact LeO.none _ | refine LeO.ite ?_ ?_ | refine LeO.bind ?_ (fun _ => ?_)
theorem nat_Cmp.mono : ∀ a0 a1 k, LeO (nat_Cmp.f k a0 a1) (nat_Cmp.f (k + 1) a0 a1) := by
 intro a0 a1 k
 have ih0 := nat_Cmp.mono_l k
 unfold nat_Cmp.f
 repeat' first | (with_reducible first | exact ih0 _ _ _ | exact nat_used.mono _ _ | exact LeO.refl _ | exact LeO.none _ | refine LeO.ite ?_ ?_ | refine LeO.bind ?_ (fun _ => ?_)) | exact LeO.none _ | refine LeO.ite ?_ ?_ | refine LeO.bind ?_ (fun _ => ?_)
def nat_at.f (l0 : List Int) (a1 : Int) : Option (Int) := if a1 < (l0.length : Int) then (if 0 ≤ a1 then (some (rd l0 a1)) else (none)) else (some 0)
def nat_Sub.l0 : Nat → List Int → List Int → Int → Int → Int → Option (List Int × Bool)
 | 0, _, _, _, _, _ => none
 | k + 1, x1, x6, x7, x16, x17 => if x17 < x16 then (if 0 ≤ x17 then (if x17 < (x6.length : Int) then ((nat_at.f x1 x17).bind fun t834 => ((bits_Sub32.f (rd x6 x17) t834 x7).bind fun bt835 => (nat_Sub.l0 k x1 (x6.set (x17 : Int).toNat bt835.1) bt835.2 x16 (wrap64 (x17 + 1))))) else (none)) else (none)) else ((nat_Trim.f k x6).bind fun t838 => (some (t838, true)))
def nat_Sub.f (k : Nat) (l0 : List Int) (l1 : List Int) : Option (List Int × Bool) := (nat_Cmp.f k l0 l1).bind fun t829 => (if t829 < 0 then (some (([] : List Int), false)) else ((nat_Trim.f k l0).bind fun t830 => (nat_Sub.l0 k l1 t830 0 (t830.length : Int) 0)))
theorem nat_Sub.mono_l : ∀ k, (∀ y0 y1 y2 y3 y4, LeO (nat_Sub.l0 k y0 y1 y2 y3 y4) (nat_Sub.l0 (k + 1) y0 y1 y2 y3 y4))
 | 0 => fun _ _ _ _ _ r h => by simp [nat_Sub.l0] at h
 | k + 1 => by
  have ih0 := nat_Sub.mono_l k
  ·intro y0 y1 y2 y3 y4
   unfold nat_Sub.l0
   repeat' first | (with_reducible first | exact ih0 _ _ _ _ _ | exact nat_Cmp.mono _ _ _ | exact nat_Trim.mono _ _ | exact LeO.refl _ | exact LeO.none _ | refine LeO.ite ?_ ?_ | refine LeO.bind ?_ (fun _ => ?_)) | exact LeO.none _ | refine LeO.ite ?_ ?_ | refine LeO.bind ?_ (fun _ => ?_)
theorem nat_Sub.mono : ∀ a0 a1 k, LeO (nat_Sub.f k a0 a1) (nat_Sub.f (k + 1) a0 a1) := by
 intro a0 a1 k
 have ih0 := nat_Sub.mono_l k
 unfold nat_Sub.f
 repeat' first | (with_reducible first | exact ih0 _ _ _ _ _ | exact nat_Cmp.mono _ _ _ | exact nat_Trim.mono _ _ | exact LeO.refl _ | exact LeO.none _ | refine LeO.ite ?_ ?_ | refine LeO.bind ?_ (fun _ => ?_)) | exact LeO.none _ | refine LeO.ite ?_ ?_ | refine LeO.bind ?_ (fun _ => ?_)
def nat_Bits.f (k : Nat) (l0 : List Int) : Option (Int) := (nat_used.f k l0).bind fun t1152 => (if t1152 = 0 then (some 0) else (if 0 ≤ (wrap64 (t1152 - 1)) then (if (wrap64 (t1152 - 1)) < (l0.length : Int) then ((bits_Len32.f (rd l0 (wrap64 (t1152 - 1)))).bind fun t1154 => (some (wrap64 ((wrap64 (32 * (wrap64 (t1152 - 1)))) + t1154)))) else (none)) else (none)))
theorem nat_Bits.mono : ∀ a0 k, LeO (nat_Bits.f k a0) (nat_Bits.f (k + 1) a0) := by
 intro a0 k
 unfold nat_Bits.f
 repeat' first | (with_reducible first | exact nat_used.mono _ _ | exact LeO.refl _ | exact LeO.none _ | refine LeO.ite ?_ ?_ | refine LeO.bind ?_ (fun _ => ?_)) | exact LeO.none _ | refine LeO.ite ?_ ?_ | refine LeO.bind ?_ (fun _ => ?_)
def nat_Bit.f (l0 : List Int) (a1 : Int) : Option (Bool) := if a1 ≥ 0 then (if (wrap64 (Int.tdiv a1 32)) < (l0.length : Int) then (if 0 ≤ (wrap64 (Int.tdiv a1 32)) then (if 0 ≤ (Int.tmod a1 32) then (some ((Go.bits .and .u32 (shr .u32 (rd l0 (wrap64 (Int.tdiv a1 32))) (Int.tmod a1 32)) 1) == 1)) else (none)) else (none)) else (some false)) else (some false)
end Go.Proofs.YtpchdjdochkjpaaGreatDoor.P
set_option linter.unusedVariables false
set_option linter.unusedSimpArgs false
namespace Go.Proofs.YtpchdjdochkjpaaGreatDoor.P
open Go.RowKit Go.Proofs.YtpchdjdochkjpaaGreatDoorW.PrintWords Go.Proofs.YtpchdjdochkjpaaGreatDoorW.PrintLast Go.Proofs.YtpchdjdochkjpaaGreatDoorW.PrintMore
mutual
def mul_Of.l0 : Nat → List Int → List Int → List Int → Int → Int → Option (List Int)
 | 0, _, _, _, _, _ => none
 | k + 1, x1, x5, x21, x22, x23 => if x23 < x22 then (if 0 ≤ x23 then (if x23 < (x21.length : Int) then (if 0 ≤ (wrap64 ((x1.length : Int) + 1)) then (if (wrap64 ((x1.length : Int) + 1) : Int).toNat ≤ 70368744177664 then ((some (List.replicate (wrap64 ((x1.length : Int) + 1) : Int).toNat 0 : List Int)).bind fun y769 => (if x23 ≤ (x5.length : Int) then (mul_Of.l1 k x1 x5 x23 (rd x21 x23) (cpy y769 0 (x5.drop (x23 : Int).toNat)) 0 x21 x22 x23 (y769.length : Int) 0) else (none))) else (none)) else (none)) else (none)) else (none)) else ((nat_Trim.f k x5).bind fun t765 => (some t765))
def mul_Of.l1 : Nat → List Int → List Int → Int → Int → List Int → Int → List Int → Int → Int → Int → Int → Option (List Int)
 | 0, _, _, _, _, _, _, _, _, _, _, _ => none
 | k + 1, x1, x5, x6, x7, x8, x9, x21, x22, x23, x38, x39 => if x39 < x38 then (if x39 < (x1.length : Int) then (if 0 ≤ x39 then (if x39 < (x8.length : Int) then (mul_Of.l1 k x1 x5 x6 x7 (x8.set (x39 : Int).toNat ((IntKind.u64.wrap ((IntKind.u64.wrap (x9 + (IntKind.u64.wrap ((IntKind.u64.wrap (x7)) * (IntKind.u64.wrap (rd x1 x39)))))) + (IntKind.u64.wrap (rd x8 x39)))) % 4294967296)) ((IntKind.u64.wrap ((IntKind.u64.wrap (x9 + (IntKind.u64.wrap ((IntKind.u64.wrap (x7)) * (IntKind.u64.wrap (rd x1 x39)))))) + (IntKind.u64.wrap (rd x8 x39)))) / 4294967296) x21 x22 x23 x38 (wrap64 (x39 + 1))) else (none)) else (none)) else (if 0 ≤ x39 then (if x39 < (x8.length : Int) then (mul_Of.l1 k x1 x5 x6 x7 (x8.set (x39 : Int).toNat ((IntKind.u64.wrap (x9 + (IntKind.u64.wrap (rd x8 x39)))) % 4294967296)) ((IntKind.u64.wrap (x9 + (IntKind.u64.wrap (rd x8 x39)))) / 4294967296) x21 x22 x23 x38 (wrap64 (x39 + 1))) else (none)) else (none))) else (if 0 ≤ x6 then (if x6 ≤ (x5.length : Int) then (mul_Of.l0 k x1 (cpy x5 (x6 : Int).toNat x8) x21 x22 (wrap64 (x23 + 1))) else (none)) else (none))
end
def mul_Of.f (k : Nat) (l0 : List Int) (l1 : List Int) : Option (List Int) := (nat_Trim.f k l0).bind fun t756 => ((nat_Trim.f k l1).bind fun t759 => (if 0 ≤ (wrap64 ((t756.length : Int) + (t759.length : Int))) then (if (wrap64 ((t756.length : Int) + (t759.length : Int)) : Int).toNat ≤ 70368744177664 then (mul_Of.l0 k t759 (List.replicate (wrap64 ((t756.length : Int) + (t759.length : Int)) : Int).toNat 0) t756 (t756.length : Int) 0) else (none)) else (none)))
theorem mul_Of.mono_l : ∀ k, (∀ y0 y1 y2 y3 y4, LeO (mul_Of.l0 k y0 y1 y2 y3 y4) (mul_Of.l0 (k + 1) y0 y1 y2 y3 y4)) ∧ (∀ y0 y1 y2 y3 y4 y5 y6 y7 y8 y9 y10, LeO (mul_Of.l1 k y0 y1 y2 y3 y4 y5 y6 y7 y8 y9 y10) (mul_Of.l1 (k + 1) y0 y1 y2 y3 y4 y5 y6 y7 y8 y9 y10))
 | 0 => ⟨fun _ _ _ _ _ r h => by simp [mul_Of.l0] at h, fun _ _ _ _ _ _ _ _ _ _ _ r h => by simp [mul_Of.l1] at h⟩
 | k + 1 => by
  obtain ⟨ih0, ih1⟩ := mul_Of.mono_l k
  refine ⟨?_, ?_⟩
  ·intro y0 y1 y2 y3 y4
   unfold mul_Of.l0
   repeat' first | (with_reducible first | exact ih0 _ _ _ _ _ | exact ih1 _ _ _ _ _ _ _ _ _ _ _ | exact nat_Trim.mono _ _ | exact LeO.refl _ | exact LeO.none _ | refine LeO.ite ?_ ?_ | refine LeO.bind ?_ (fun _ => ?_)) | exact LeO.none _ | refine LeO.ite ?_ ?_ | refine LeO.bind ?_ (fun _ => ?_)
  ·intro y0 y1 y2 y3 y4 y5 y6 y7 y8 y9 y10
   unfold mul_Of.l1
   repeat' first | (with_reducible first | exact ih0 _ _ _ _ _ | exact ih1 _ _ _ _ _ _ _ _ _ _ _ | exact nat_Trim.mono _ _ | exact LeO.refl _ | exact LeO.none _ | refine LeO.ite ?_ ?_ | refine LeO.bind ?_ (fun _ => ?_)) | exact LeO.none _ | refine LeO.ite ?_ ?_ | refine LeO.bind ?_ (fun _ => ?_)
theorem mul_Of.mono : ∀ a0 a1 k, LeO (mul_Of.f k a0 a1) (mul_Of.f (k + 1) a0 a1) := by
 intro a0 a1 k
 obtain ⟨ih0, ih1⟩ := mul_Of.mono_l k
 unfold mul_Of.f
 repeat' first | (with_reducible first | exact ih0 _ _ _ _ _ | exact ih1 _ _ _ _ _ _ _ _ _ _ _ | exact nat_Trim.mono _ _ | exact LeO.refl _ | exact LeO.none _ | refine LeO.ite ?_ ?_ | refine LeO.bind ?_ (fun _ => ?_)) | exact LeO.none _ | refine LeO.ite ?_ ?_ | refine LeO.bind ?_ (fun _ => ?_)
def mul_Small.f (k : Nat) (l0 : List Int) (a1 : Int) : Option (List Int) := (mul_Of.f k l0 (([a1] : List Int))).bind fun t790 => (some t790)
theorem mul_Small.mono : ∀ a0 a1 k, LeO (mul_Small.f k a0 a1) (mul_Small.f (k + 1) a0 a1) := by
 intro a0 a1 k
 unfold mul_Small.f
 repeat' first | (with_reducible first | exact mul_Of.mono _ _ _ | exact LeO.refl _ | exact LeO.none _ | refine LeO.ite ?_ ?_ | refine LeO.bind ?_ (fun _ => ?_)) | exact LeO.none _ | refine LeO.ite ?_ ?_ | refine LeO.bind ?_ (fun _ => ?_)
def mul_up.f (k : Nat) (l0 : List Int) (a1 : Int) : Option (List Int) := if 0 ≤ (wrap64 ((wrap64 ((wrap64 (Int.tdiv a1 32)) + (l0.length : Int))) + 1)) then (if (wrap64 ((wrap64 ((wrap64 (Int.tdiv a1 32)) + (l0.length : Int))) + 1) : Int).toNat ≤ 70368744177664 then ((some (List.replicate (wrap64 ((wrap64 ((wrap64 (Int.tdiv a1 32)) + (l0.length : Int))) + 1) : Int).toNat 0 : List Int)).bind fun y793 => (if 0 ≤ (wrap64 (Int.tdiv a1 32)) then (if (wrap64 (Int.tdiv a1 32)) ≤ (y793.length : Int) then (if 0 ≤ (Int.tmod a1 32) then ((mul_Small.f k (cpy y793 ((wrap64 (Int.tdiv a1 32)) : Int).toNat l0) (shl .u32 1 (Int.tmod a1 32))).bind fun t801 => (some t801)) else (none)) else (none)) else (none))) else (none)) else (none)
theorem mul_up.mono : ∀ a0 a1 k, LeO (mul_up.f k a0 a1) (mul_up.f (k + 1) a0 a1) := by
 intro a0 a1 k
 unfold mul_up.f
 repeat' first | (with_reducible first | exact mul_Small.mono _ _ _ | exact LeO.refl _ | exact LeO.none _ | refine LeO.ite ?_ ?_ | refine LeO.bind ?_ (fun _ => ?_)) | exact LeO.none _ | refine LeO.ite ?_ ?_ | refine LeO.bind ?_ (fun _ => ?_)
def mul_down.l0 : Nat → Int → List Int → Int → Int → Option (List Int)
 | 0, _, _, _, _ => none
 | k + 1, x1, x5, x20, x21 => if x21 < x20 then (if (wrap64 (x21 + 1)) < (x5.length : Int) then (if 0 ≤ (wrap64 (x21 + 1)) then (if 0 ≤ x21 then (if x21 < (x5.length : Int) then (if 0 ≤ (Int.tmod x1 32) then (mul_down.l0 k x1 (x5.set (x21 : Int).toNat ((shr .u64 (Go.bits .or .u64 (IntKind.u64.wrap ((IntKind.u64.wrap (rd x5 (wrap64 (x21 + 1)))) * 4294967296)) (IntKind.u64.wrap (rd x5 x21))) (Int.tmod x1 32)) % 4294967296)) x20 (wrap64 (x21 + 1))) else (none)) else (none)) else (none)) else (none)) else (if 0 ≤ x21 then (if x21 < (x5.length : Int) then (if 0 ≤ (Int.tmod x1 32) then (mul_down.l0 k x1 (x5.set (x21 : Int).toNat ((shr .u64 (Go.bits .or .u64 0 (IntKind.u64.wrap (rd x5 x21))) (Int.tmod x1 32)) % 4294967296)) x20 (wrap64 (x21 + 1))) else (none)) else (none)) else (none))) else ((nat_Trim.f k x5).bind fun t816 => (some t816))
def mul_down.f (k : Nat) (l0 : List Int) (a1 : Int) : Option (List Int) := if (wrap64 (Int.tdiv a1 32)) ≥ (l0.length : Int) then (some (([] : List Int))) else (if 0 ≤ (wrap64 (Int.tdiv a1 32)) then (if (wrap64 (Int.tdiv a1 32)) ≤ (l0.length : Int) then ((nat_Trim.f k (l0.drop ((wrap64 (Int.tdiv a1 32)) : Int).toNat)).bind fun t808 => (mul_down.l0 k a1 t808 (t808.length : Int) 0)) else (none)) else (none))
theorem mul_down.mono_l : ∀ k, (∀ y0 y1 y2 y3, LeO (mul_down.l0 k y0 y1 y2 y3) (mul_down.l0 (k + 1) y0 y1 y2 y3))
 | 0 => fun _ _ _ _ r h => by simp [mul_down.l0] at h
 | k + 1 => by
  have ih0 := mul_down.mono_l k
  ·intro y0 y1 y2 y3
   unfold mul_down.l0
   repeat' first | (with_reducible first | exact ih0 _ _ _ _ | exact nat_Trim.mono _ _ | exact LeO.refl _ | exact LeO.none _ | refine LeO.ite ?_ ?_ | refine LeO.bind ?_ (fun _ => ?_)) | exact LeO.none _ | refine LeO.ite ?_ ?_ | refine LeO.bind ?_ (fun _ => ?_)
theorem mul_down.mono : ∀ a0 a1 k, LeO (mul_down.f k a0 a1) (mul_down.f (k + 1) a0 a1) := by
 intro a0 a1 k
 have ih0 := mul_down.mono_l k
 unfold mul_down.f
 repeat' first | (with_reducible first | exact ih0 _ _ _ _ | exact nat_Trim.mono _ _ | exact LeO.refl _ | exact LeO.none _ | refine LeO.ite ?_ ?_ | refine LeO.bind ?_ (fun _ => ?_)) | exact LeO.none _ | refine LeO.ite ?_ ?_ | refine LeO.bind ?_ (fun _ => ?_)
def mul_Shift.f (k : Nat) (l0 : List Int) (a1 : Int) : Option (List Int) := if a1 ≥ 0 then ((mul_up.f k l0 (mn a1 8192)).bind fun t819 => (some t819)) else (if a1 < (-8192) then (some (([] : List Int))) else ((mul_down.f k l0 (wrap64 (-a1))).bind fun t825 => (some t825)))
theorem mul_Shift.mono : ∀ a0 a1 k, LeO (mul_Shift.f k a0 a1) (mul_Shift.f (k + 1) a0 a1) := by
 intro a0 a1 k
 unfold mul_Shift.f
 repeat' first | (with_reducible first | exact mul_down.mono _ _ _ | exact mul_up.mono _ _ _ | exact LeO.refl _ | exact LeO.none _ | refine LeO.ite ?_ ?_ | refine LeO.bind ?_ (fun _ => ?_)) | exact LeO.none _ | refine LeO.ite ?_ ?_ | refine LeO.bind ?_ (fun _ => ?_)
def mul_Pow.l0 : Nat → List Int → List Int → List Int → Int → Option (List Int × Bool)
 | 0, _, _, _, _ => none
 | k + 1, x0, x6, x7, x8 => if x8 ≥ 0 then ((mul_Of.f k x6 x6).bind fun t1163 => (if (t1163.length : Int) > 256 then (some (([] : List Int), false)) else ((nat_Bit.f x7 x8).bind fun t1166 => (if t1166 = true then ((mul_Of.f k t1163 x0).bind fun t1167 => (if (t1167.length : Int) > 256 then (some (([] : List Int), false)) else (mul_Pow.l0 k x0 t1167 x7 (wrap64 (x8 - 1))))) else (mul_Pow.l0 k x0 t1163 x7 (wrap64 (x8 - 1))))))) else (some (x6, true))
def mul_Pow.f (k : Nat) (l0 : List Int) (a1 : Int) : Option (List Int × Bool) := if a1 < 0 then (some (([] : List Int), false)) else ((nat_Of.f k 1).bind fun t1156 => ((nat_Of.f k (IntKind.u64.wrap (a1))).bind fun t1159 => ((nat_Bits.f k t1159).bind fun t1162 => (mul_Pow.l0 k l0 t1156 t1159 (wrap64 (t1162 - 1))))))
theorem mul_Pow.mono_l : ∀ k, (∀ y0 y1 y2 y3, LeO (mul_Pow.l0 k y0 y1 y2 y3) (mul_Pow.l0 (k + 1) y0 y1 y2 y3))
 | 0 => fun _ _ _ _ r h => by simp [mul_Pow.l0] at h
 | k + 1 => by
  have ih0 := mul_Pow.mono_l k
  ·intro y0 y1 y2 y3
   unfold mul_Pow.l0
   repeat' first | (with_reducible first | exact ih0 _ _ _ _ | exact mul_Of.mono _ _ _ | exact nat_Bits.mono _ _ | exact nat_Of.mono _ _ | exact LeO.refl _ | exact LeO.none _ | refine LeO.ite ?_ ?_ | refine LeO.bind ?_ (fun _ => ?_)) | exact LeO.none _ | refine LeO.ite ?_ ?_ | refine LeO.bind ?_ (fun _ => ?_)
theorem mul_Pow.mono : ∀ a0 a1 k, LeO (mul_Pow.f k a0 a1) (mul_Pow.f (k + 1) a0 a1) := by
 intro a0 a1 k
 have ih0 := mul_Pow.mono_l k
 unfold mul_Pow.f
 repeat' first | (with_reducible first | exact ih0 _ _ _ _ | exact mul_Of.mono _ _ _ | exact nat_Bits.mono _ _ | exact nat_Of.mono _ _ | exact LeO.refl _ | exact LeO.none _ | refine LeO.ite ?_ ?_ | refine LeO.bind ?_ (fun _ => ?_)) | exact LeO.none _ | refine LeO.ite ?_ ?_ | refine LeO.bind ?_ (fun _ => ?_)
end Go.Proofs.YtpchdjdochkjpaaGreatDoor.P
set_option linter.unusedVariables false
set_option linter.unusedSimpArgs false
namespace Go.Proofs.YtpchdjdochkjpaaGreatDoor.P
open Go.RowKit Go.Proofs.YtpchdjdochkjpaaGreatDoorW.PrintWords Go.Proofs.YtpchdjdochkjpaaGreatDoorW.PrintLast Go.Proofs.YtpchdjdochkjpaaGreatDoorW.PrintMore
def quo_less.l0 : Nat → List Int → List Int → Int → Option (List Int × Int)
 | 0, _, _, _ => none
 | k + 1, x0, x1, x2 => (mul_Small.f k x1 x2).bind fun t841 => ((nat_Sub.f k x0 t841).bind fun bt844 => (if bt844.2 = true then (some (bt844.1, x2)) else (quo_less.l0 k x0 x1 ((x2 - 1) % 4294967296))))
def quo_less.f (k : Nat) (l0 : List Int) (l1 : List Int) (a2 : Int) : Option (List Int × Int) := quo_less.l0 k l0 l1 a2
theorem quo_less.mono_l : ∀ k, (∀ y0 y1 y2, LeO (quo_less.l0 k y0 y1 y2) (quo_less.l0 (k + 1) y0 y1 y2))
 | 0 => fun _ _ _ r h => by simp [quo_less.l0] at h
 | k + 1 => by
  have ih0 := quo_less.mono_l k
  ·intro y0 y1 y2
   unfold quo_less.l0
   repeat' first | (with_reducible first | exact ih0 _ _ _ | exact mul_Small.mono _ _ _ | exact nat_Sub.mono _ _ _ | exact LeO.refl _ | exact LeO.none _ | refine LeO.ite ?_ ?_ | refine LeO.bind ?_ (fun _ => ?_)) | exact LeO.none _ | refine LeO.ite ?_ ?_ | refine LeO.bind ?_ (fun _ => ?_)
theorem quo_less.mono : ∀ a0 a1 a2 k, LeO (quo_less.f k a0 a1 a2) (quo_less.f (k + 1) a0 a1 a2) := by
 intro a0 a1 a2 k
 have ih0 := quo_less.mono_l k
 unfold quo_less.f
 repeat' first | (with_reducible first | exact ih0 _ _ _ | exact mul_Small.mono _ _ _ | exact nat_Sub.mono _ _ _ | exact LeO.refl _ | exact LeO.none _ | refine LeO.ite ?_ ?_ | refine LeO.bind ?_ (fun _ => ?_)) | exact LeO.none _ | refine LeO.ite ?_ ?_ | refine LeO.bind ?_ (fun _ => ?_)
def quo_guess.f (l0 : List Int) (l1 : List Int) : Option (Int) := if 0 ≤ (l1.length : Int) then (if (l1.length : Int) < (l0.length : Int) then (if 0 ≤ (wrap64 ((l1.length : Int) - 1)) then (if (wrap64 ((l1.length : Int) - 1)) < (l0.length : Int) then (if (wrap64 ((l1.length : Int) - 1)) < (l1.length : Int) then (if (IntKind.u64.wrap (rd l1 (wrap64 ((l1.length : Int) - 1)))) = 0 then (none) else (some ((mn (IntKind.u64.wrap (Int.tdiv (Go.bits .or .u64 (IntKind.u64.wrap ((IntKind.u64.wrap (rd l0 (l1.length : Int))) * 4294967296)) (IntKind.u64.wrap (rd l0 (wrap64 ((l1.length : Int) - 1))))) (IntKind.u64.wrap (rd l1 (wrap64 ((l1.length : Int) - 1)))))) 4294967295) % 4294967296))) else (none)) else (none)) else (none)) else (none)) else (none)
def quo_Rem.l0 : Nat → List Int → List Int → List Int → Int → List Int → Int → Option (List Int × List Int × Bool)
 | 0, _, _, _, _, _, _ => none
 | k + 1, x0, x1, x4, x7, x8, x9 => if x9 ≥ 0 then (if 0 ≤ (wrap64 ((x1.length : Int) + 1)) then (if (wrap64 ((x1.length : Int) + 1) : Int).toNat ≤ 70368744177664 then ((some (List.replicate (wrap64 ((x1.length : Int) + 1) : Int).toNat 0 : List Int)).bind fun y868 => (if 1 ≤ (y868.length : Int) then (if 0 ≤ x9 then (if x9 < (x0.length : Int) then (if 0 < (y868.length : Int) then ((some ((cpy y868 1 x8).set (0 : Int).toNat (rd x0 x9) : List Int)).bind fun y877 => ((quo_guess.f y877 x1).bind fun t878 => ((quo_less.f k y877 x1 t878).bind fun bt879 => (if x9 < (x4.length : Int) then (quo_Rem.l0 k x0 x1 (x4.set (x9 : Int).toNat bt879.2) x7 bt879.1 (wrap64 (x9 - 1))) else (none))))) else (none)) else (none)) else (none)) else (none))) else (none)) else (none)) else ((nat_Trim.f k x4).bind fun t884 => ((mul_Shift.f k x8 (wrap64 (-x7))).bind fun t887 => (some (t884, t887, true))))
def quo_Rem.f (k : Nat) (l0 : List Int) (l1 : List Int) : Option (List Int × List Int × Bool) := (nat_Trim.f k l1).bind fun t851 => (if (t851.length : Int) = 0 then (some (([] : List Int), ([] : List Int), false)) else (if 0 ≤ (wrap64 ((t851.length : Int) - 1)) then (if (wrap64 ((t851.length : Int) - 1)) < (t851.length : Int) then ((bits_LeadingZeros32.f (rd t851 (wrap64 ((t851.length : Int) - 1)))).bind fun t855 => ((mul_Shift.f k l0 t855).bind fun t856 => ((mul_Shift.f k t851 t855).bind fun t859 => (if 0 ≤ (t856.length : Int) then (if ((t856.length : Int) : Int).toNat ≤ 70368744177664 then (quo_Rem.l0 k t856 t859 (List.replicate ((t856.length : Int) : Int).toNat 0) t855 (([] : List Int)) (wrap64 ((t856.length : Int) - 1))) else (none)) else (none))))) else (none)) else (none)))
theorem quo_Rem.mono_l : ∀ k, (∀ y0 y1 y2 y3 y4 y5, LeO (quo_Rem.l0 k y0 y1 y2 y3 y4 y5) (quo_Rem.l0 (k + 1) y0 y1 y2 y3 y4 y5))
 | 0 => fun _ _ _ _ _ _ r h => by simp [quo_Rem.l0] at h
 | k + 1 => by
  have ih0 := quo_Rem.mono_l k
  ·intro y0 y1 y2 y3 y4 y5
   unfold quo_Rem.l0
   repeat' first | (with_reducible first | exact ih0 _ _ _ _ _ _ | exact mul_Shift.mono _ _ _ | exact nat_Trim.mono _ _ | exact quo_less.mono _ _ _ _ | exact LeO.refl _ | exact LeO.none _ | refine LeO.ite ?_ ?_ | refine LeO.bind ?_ (fun _ => ?_)) | exact LeO.none _ | refine LeO.ite ?_ ?_ | refine LeO.bind ?_ (fun _ => ?_)
theorem quo_Rem.mono : ∀ a0 a1 k, LeO (quo_Rem.f k a0 a1) (quo_Rem.f (k + 1) a0 a1) := by
 intro a0 a1 k
 have ih0 := quo_Rem.mono_l k
 unfold quo_Rem.f
 repeat' first | (with_reducible first | exact ih0 _ _ _ _ _ _ | exact mul_Shift.mono _ _ _ | exact nat_Trim.mono _ _ | exact quo_less.mono _ _ _ _ | exact LeO.refl _ | exact LeO.none _ | refine LeO.ite ?_ ?_ | refine LeO.bind ?_ (fun _ => ?_)) | exact LeO.none _ | refine LeO.ite ?_ ?_ | refine LeO.bind ?_ (fun _ => ?_)
def quo_Gcd.l0 : Nat → List Int → List Int → Option (List Int)
 | 0, _, _ => none
 | k + 1, x0, x1 => if (x1.length : Int) > 0 then ((quo_Rem.f k x0 x1).bind fun bt896 => (quo_Gcd.l0 k x1 bt896.2.1)) else (some x0)
def quo_Gcd.f (k : Nat) (l0 : List Int) (l1 : List Int) : Option (List Int) := (nat_Trim.f k l0).bind fun t890 => ((nat_Trim.f k l1).bind fun t893 => (quo_Gcd.l0 k t890 t893))
theorem quo_Gcd.mono_l : ∀ k, (∀ y0 y1, LeO (quo_Gcd.l0 k y0 y1) (quo_Gcd.l0 (k + 1) y0 y1))
 | 0 => fun _ _ r h => by simp [quo_Gcd.l0] at h
 | k + 1 => by
  have ih0 := quo_Gcd.mono_l k
  ·intro y0 y1
   unfold quo_Gcd.l0
   repeat' first | (with_reducible first | exact ih0 _ _ | exact nat_Trim.mono _ _ | exact quo_Rem.mono _ _ _ | exact LeO.refl _ | exact LeO.none _ | refine LeO.ite ?_ ?_ | refine LeO.bind ?_ (fun _ => ?_)) | exact LeO.none _ | refine LeO.ite ?_ ?_ | refine LeO.bind ?_ (fun _ => ?_)
theorem quo_Gcd.mono : ∀ a0 a1 k, LeO (quo_Gcd.f k a0 a1) (quo_Gcd.f (k + 1) a0 a1) := by
 intro a0 a1 k
 have ih0 := quo_Gcd.mono_l k
 unfold quo_Gcd.f
 repeat' first | (with_reducible first | exact ih0 _ _ | exact nat_Trim.mono _ _ | exact quo_Rem.mono _ _ _ | exact LeO.refl _ | exact LeO.none _ | refine LeO.ite ?_ ?_ | refine LeO.bind ?_ (fun _ => ?_)) | exact LeO.none _ | refine LeO.ite ?_ ?_ | refine LeO.bind ?_ (fun _ => ?_)
end Go.Proofs.YtpchdjdochkjpaaGreatDoor.P
set_option linter.unusedVariables false
set_option linter.unusedSimpArgs false
namespace Go.Proofs.YtpchdjdochkjpaaGreatDoor.P
open Go.RowKit Go.Proofs.YtpchdjdochkjpaaGreatDoorW.PrintWords Go.Proofs.YtpchdjdochkjpaaGreatDoorW.PrintLast Go.Proofs.YtpchdjdochkjpaaGreatDoorW.PrintMore
def whole_made.f (k : Nat) (a0 : Bool) (l1 : List Int) : Option (Bool × List Int) := if 0 ≤ (l1.length : Int) then (if ((l1.length : Int) : Int).toNat ≤ 70368744177664 then ((nat_Trim.f k (cpy (List.replicate ((l1.length : Int) : Int).toNat 0) 0 l1)).bind fun t918 => (if a0 = true then (some (decide ((t918.length : Int) > 0), t918)) else (some (false, t918)))) else (none)) else (none)
theorem whole_made.mono : ∀ a0 a1 k, LeO (whole_made.f k a0 a1) (whole_made.f (k + 1) a0 a1) := by
 intro a0 a1 k
 unfold whole_made.f
 repeat' first | (with_reducible first | exact nat_Trim.mono _ _ | exact LeO.refl _ | exact LeO.none _ | refine LeO.ite ?_ ?_ | refine LeO.bind ?_ (fun _ => ?_)) | exact LeO.none _ | refine LeO.ite ?_ ?_ | refine LeO.bind ?_ (fun _ => ?_)
def whole_Trim.f (k : Nat) (a0_0 : Bool) (l0_1 : List Int) : Option (Bool × List Int) := (whole_made.f k a0_0 l0_1).bind fun bt923 => (some (bt923.1, bt923.2))
theorem whole_Trim.mono : ∀ a0 a1 k, LeO (whole_Trim.f k a0 a1) (whole_Trim.f (k + 1) a0 a1) := by
 intro a0 a1 k
 unfold whole_Trim.f
 repeat' first | (with_reducible first | exact whole_made.mono _ _ _ | exact LeO.refl _ | exact LeO.none _ | refine LeO.ite ?_ ?_ | refine LeO.bind ?_ (fun _ => ?_)) | exact LeO.none _ | refine LeO.ite ?_ ?_ | refine LeO.bind ?_ (fun _ => ?_)
def whole_Mul.f (k : Nat) (a0_0 : Bool) (l0_1 : List Int) (a1_0 : Bool) (l1_1 : List Int) : Option (Bool × List Int) := (mul_Of.f k l0_1 l1_1).bind fun t956 => ((whole_made.f k (a0_0 != a1_0) t956).bind fun bt959 => (some (bt959.1, bt959.2)))
theorem whole_Mul.mono : ∀ a0 a1 a2 a3 k, LeO (whole_Mul.f k a0 a1 a2 a3) (whole_Mul.f (k + 1) a0 a1 a2 a3) := by
 intro a0 a1 a2 a3 k
 unfold whole_Mul.f
 repeat' first | (with_reducible first | exact mul_Of.mono _ _ _ | exact whole_made.mono _ _ _ | exact LeO.refl _ | exact LeO.none _ | refine LeO.ite ?_ ?_ | refine LeO.bind ?_ (fun _ => ?_)) | exact LeO.none _ | refine LeO.ite ?_ ?_ | refine LeO.bind ?_ (fun _ => ?_)
def whole_Of.f (k : Nat) (a0 : Int) : Option (Bool × List Int) := if a0 < 0 then ((nat_Of.f k (IntKind.u64.wrap (-(IntKind.u64.wrap (a0))))).bind fun t984 => ((whole_made.f k true t984).bind fun bt987 => (some (bt987.1, bt987.2)))) else ((nat_Of.f k (IntKind.u64.wrap (a0))).bind fun t991 => ((whole_made.f k false t991).bind fun bt994 => (some (bt994.1, bt994.2))))
theorem whole_Of.mono : ∀ a0 k, LeO (whole_Of.f k a0) (whole_Of.f (k + 1) a0) := by
 intro a0 k
 unfold whole_Of.f
 repeat' first | (with_reducible first | exact nat_Of.mono _ _ | exact whole_made.mono _ _ _ | exact LeO.refl _ | exact LeO.none _ | refine LeO.ite ?_ ?_ | refine LeO.bind ?_ (fun _ => ?_)) | exact LeO.none _ | refine LeO.ite ?_ ?_ | refine LeO.bind ?_ (fun _ => ?_)
def whole_Neg.f (k : Nat) (a0_0 : Bool) (l0_1 : List Int) : Option (Bool × List Int) := (whole_made.f k (!a0_0) l0_1).bind fun bt1067 => (some (bt1067.1, bt1067.2))
theorem whole_Neg.mono : ∀ a0 a1 k, LeO (whole_Neg.f k a0 a1) (whole_Neg.f (k + 1) a0 a1) := by
 intro a0 a1 k
 unfold whole_Neg.f
 repeat' first | (with_reducible first | exact whole_made.mono _ _ _ | exact LeO.refl _ | exact LeO.none _ | refine LeO.ite ?_ ?_ | refine LeO.bind ?_ (fun _ => ?_)) | exact LeO.none _ | refine LeO.ite ?_ ?_ | refine LeO.bind ?_ (fun _ => ?_)
mutual
def whole_Cmp.j0 : Nat → Bool → Bool → List Int → Bool → List Int → Option (Int)
 | 0, _, _, _, _, _ => none
 | k + 1, x9, x1100000, x1100001, x1101000, x1101001 => if x9 = true then (some (-1)) else (if x1101000 = true then (whole_Cmp.j1 k (!x1100000) x1100000 x1100001 x1101000 x1101001) else (whole_Cmp.j1 k false x1100000 x1100001 x1101000 x1101001))
def whole_Cmp.j1 : Nat → Bool → Bool → List Int → Bool → List Int → Option (Int)
 | 0, _, _, _, _, _ => none
 | k + 1, x17, x1100000, x1100001, x1101000, x1101001 => if x17 = true then (some 1) else (if x1100000 = true then ((nat_Cmp.f k x1101001 x1100001).bind fun t1109 => (some t1109)) else ((nat_Cmp.f k x1100001 x1101001).bind fun t1110 => (some t1110)))
end
def whole_Cmp.f (k : Nat) (a0_0 : Bool) (l0_1 : List Int) (a1_0 : Bool) (l1_1 : List Int) : Option (Int) := (whole_Trim.f k a0_0 l0_1).bind fun bt1101 => ((whole_Trim.f k a1_0 l1_1).bind fun bt1105 => (if bt1101.1 = true then (whole_Cmp.j0 k (!bt1105.1) bt1101.1 bt1101.2 bt1105.1 bt1105.2) else (whole_Cmp.j0 k false bt1101.1 bt1101.2 bt1105.1 bt1105.2)))
theorem whole_Cmp.mono_l : ∀ k, (∀ y0 y1 y2 y3 y4, LeO (whole_Cmp.j0 k y0 y1 y2 y3 y4) (whole_Cmp.j0 (k + 1) y0 y1 y2 y3 y4)) ∧ (∀ y0 y1 y2 y3 y4, LeO (whole_Cmp.j1 k y0 y1 y2 y3 y4) (whole_Cmp.j1 (k + 1) y0 y1 y2 y3 y4))
 | 0 => ⟨fun _ _ _ _ _ r h => by simp [whole_Cmp.j0] at h, fun _ _ _ _ _ r h => by simp [whole_Cmp.j1] at h⟩
 | k + 1 => by
  obtain ⟨ih0, ih1⟩ := whole_Cmp.mono_l k
  refine ⟨?_, ?_⟩
  ·intro y0 y1 y2 y3 y4
   unfold whole_Cmp.j0
   repeat' first | (with_reducible first | exact ih0 _ _ _ _ _ | exact ih1 _ _ _ _ _ | exact nat_Cmp.mono _ _ _ | exact whole_Trim.mono _ _ _ | exact LeO.refl _ | exact LeO.none _ | refine LeO.ite ?_ ?_ | refine LeO.bind ?_ (fun _ => ?_)) | exact LeO.none _ | refine LeO.ite ?_ ?_ | refine LeO.bind ?_ (fun _ => ?_)
  ·intro y0 y1 y2 y3 y4
   unfold whole_Cmp.j1
   repeat' first | (with_reducible first | exact ih0 _ _ _ _ _ | exact ih1 _ _ _ _ _ | exact nat_Cmp.mono _ _ _ | exact whole_Trim.mono _ _ _ | exact LeO.refl _ | exact LeO.none _ | refine LeO.ite ?_ ?_ | refine LeO.bind ?_ (fun _ => ?_)) | exact LeO.none _ | refine LeO.ite ?_ ?_ | refine LeO.bind ?_ (fun _ => ?_)
theorem whole_Cmp.mono : ∀ a0 a1 a2 a3 k, LeO (whole_Cmp.f k a0 a1 a2 a3) (whole_Cmp.f (k + 1) a0 a1 a2 a3) := by
 intro a0 a1 a2 a3 k
 obtain ⟨ih0, ih1⟩ := whole_Cmp.mono_l k
 unfold whole_Cmp.f
 repeat' first | (with_reducible first | exact ih0 _ _ _ _ _ | exact ih1 _ _ _ _ _ | exact nat_Cmp.mono _ _ _ | exact whole_Trim.mono _ _ _ | exact LeO.refl _ | exact LeO.none _ | refine LeO.ite ?_ ?_ | refine LeO.bind ?_ (fun _ => ?_)) | exact LeO.none _ | refine LeO.ite ?_ ?_ | refine LeO.bind ?_ (fun _ => ?_)
end Go.Proofs.YtpchdjdochkjpaaGreatDoor.P
set_option linter.unusedVariables false
set_option linter.unusedSimpArgs false
namespace Go.Proofs.YtpchdjdochkjpaaGreatDoor.P
open Go.RowKit Go.Proofs.YtpchdjdochkjpaaGreatDoorW.PrintWords Go.Proofs.YtpchdjdochkjpaaGreatDoorW.PrintLast Go.Proofs.YtpchdjdochkjpaaGreatDoorW.PrintMore
def rat_trimmed.f (l0 : List Int) : Option (Bool) := if (l0.length : Int) = 0 then (some true) else (if 0 ≤ (wrap64 ((l0.length : Int) - 1)) then (if (wrap64 ((l0.length : Int) - 1)) < (l0.length : Int) then (some ((rd l0 (wrap64 ((l0.length : Int) - 1))) != 0)) else (none)) else (none))
def rat_Good.j0 : Nat → List Int → List Int → Bool → Option (Bool)
 | 0, _, _, _ => none
 | k + 1, x3, x4, x42 => if x42 = true then (some false) else ((quo_Gcd.f k x3 x4).bind fun t906 => ((nat_Of.f k 1).bind fun t909 => ((nat_Cmp.f k t906 t909).bind fun t912 => (some (t912 == 0)))))
def rat_Good.f (k : Nat) (a0_0 : Bool) (l0_1 : List Int) (l0_2 : List Int) : Option (Bool) := (rat_trimmed.f l0_1).bind fun t904 => (if t904 = true then ((rat_trimmed.f l0_2).bind fun t905 => (if t905 = true then (if (l0_2.length : Int) = 0 then (rat_Good.j0 k l0_1 l0_2 true) else (if (l0_2.length : Int) > 64 then (rat_Good.j0 k l0_1 l0_2 true) else (if (l0_1.length : Int) > 64 then (rat_Good.j0 k l0_1 l0_2 true) else (if a0_0 = true then (rat_Good.j0 k l0_1 l0_2 ((l0_1.length : Int) == 0)) else (rat_Good.j0 k l0_1 l0_2 false))))) else (rat_Good.j0 k l0_1 l0_2 true))) else (rat_Good.j0 k l0_1 l0_2 true))
theorem rat_Good.mono_l : ∀ k, (∀ y0 y1 y2, LeO (rat_Good.j0 k y0 y1 y2) (rat_Good.j0 (k + 1) y0 y1 y2))
 | 0 => fun _ _ _ r h => by simp [rat_Good.j0] at h
 | k + 1 => by
  have ih0 := rat_Good.mono_l k
  ·intro y0 y1 y2
   unfold rat_Good.j0
   repeat' first | (with_reducible first | exact ih0 _ _ _ | exact nat_Cmp.mono _ _ _ | exact nat_Of.mono _ _ | exact quo_Gcd.mono _ _ _ | exact LeO.refl _ | exact LeO.none _ | refine LeO.ite ?_ ?_ | refine LeO.bind ?_ (fun _ => ?_)) | exact LeO.none _ | refine LeO.ite ?_ ?_ | refine LeO.bind ?_ (fun _ => ?_)
theorem rat_Good.mono : ∀ a0 a1 a2 k, LeO (rat_Good.f k a0 a1 a2) (rat_Good.f (k + 1) a0 a1 a2) := by
 intro a0 a1 a2 k
 have ih0 := rat_Good.mono_l k
 unfold rat_Good.f
 repeat' first | (with_reducible first | exact ih0 _ _ _ | exact nat_Cmp.mono _ _ _ | exact nat_Of.mono _ _ | exact quo_Gcd.mono _ _ _ | exact LeO.refl _ | exact LeO.none _ | refine LeO.ite ?_ ?_ | refine LeO.bind ?_ (fun _ => ?_)) | exact LeO.none _ | refine LeO.ite ?_ ?_ | refine LeO.bind ?_ (fun _ => ?_)
def rat_Of.f (k : Nat) (a0_0 : Bool) (l0_1 : List Int) (l1 : List Int) : Option (Bool × List Int × List Int × Int) := (whole_Trim.f k a0_0 l0_1).bind fun bt929 => ((nat_Trim.f k l1).bind fun t933 => (if (t933.length : Int) = 0 then (some (false, ([] : List Int), ([] : List Int), 3)) else ((quo_Gcd.f k bt929.2 t933).bind fun t936 => ((quo_Rem.f k bt929.2 t936).bind fun bt939 => ((quo_Rem.f k t933 t936).bind fun bt946 => (if (bt939.1.length : Int) > 64 then (some (false, ([] : List Int), ([] : List Int), 2)) else (if (bt946.1.length : Int) > 64 then (some (false, ([] : List Int), ([] : List Int), 2)) else (some (bt929.1, bt939.1, bt946.1, 0)))))))))
theorem rat_Of.mono : ∀ a0 a1 a2 k, LeO (rat_Of.f k a0 a1 a2) (rat_Of.f (k + 1) a0 a1 a2) := by
 intro a0 a1 a2 k
 unfold rat_Of.f
 repeat' first | (with_reducible first | exact nat_Trim.mono _ _ | exact quo_Gcd.mono _ _ _ | exact quo_Rem.mono _ _ _ | exact whole_Trim.mono _ _ _ | exact LeO.refl _ | exact LeO.none _ | refine LeO.ite ?_ ?_ | refine LeO.bind ?_ (fun _ => ?_)) | exact LeO.none _ | refine LeO.ite ?_ ?_ | refine LeO.bind ?_ (fun _ => ?_)
def rat_Mul.j0 : Nat → Bool → Bool → List Int → List Int → Bool → List Int → List Int → Option (Bool × List Int × List Int × Int)
 | 0, _, _, _, _, _, _, _ => none
 | k + 1, x13, x964000, x964001, x964002, x965000, x965001, x965002 => if x13 = true then (some (false, ([] : List Int), ([] : List Int), 1)) else ((whole_Mul.f k x964000 x964001 x965000 x965001).bind fun bt968 => ((mul_Of.f k x964002 x965002).bind fun t972 => ((rat_Of.f k bt968.1 bt968.2 t972).bind fun bt975 => (some (bt975.1, bt975.2.1, bt975.2.2.1, bt975.2.2.2)))))
def rat_Mul.f (k : Nat) (a0_0 : Bool) (l0_1 : List Int) (l0_2 : List Int) (a1_0 : Bool) (l1_1 : List Int) (l1_2 : List Int) : Option (Bool × List Int × List Int × Int) := (rat_Good.f k a0_0 l0_1 l0_2).bind fun t966 => (if t966 = true then ((rat_Good.f k a1_0 l1_1 l1_2).bind fun t967 => (rat_Mul.j0 k (!t967) a0_0 l0_1 l0_2 a1_0 l1_1 l1_2)) else (rat_Mul.j0 k true a0_0 l0_1 l0_2 a1_0 l1_1 l1_2))
theorem rat_Mul.mono_l : ∀ k, (∀ y0 y1 y2 y3 y4 y5 y6, LeO (rat_Mul.j0 k y0 y1 y2 y3 y4 y5 y6) (rat_Mul.j0 (k + 1) y0 y1 y2 y3 y4 y5 y6))
 | 0 => fun _ _ _ _ _ _ _ r h => by simp [rat_Mul.j0] at h
 | k + 1 => by
  have ih0 := rat_Mul.mono_l k
  ·intro y0 y1 y2 y3 y4 y5 y6
   unfold rat_Mul.j0
   repeat' first | (with_reducible first | exact ih0 _ _ _ _ _ _ _ | exact mul_Of.mono _ _ _ | exact rat_Good.mono _ _ _ _ | exact rat_Of.mono _ _ _ _ | exact whole_Mul.mono _ _ _ _ _ | exact LeO.refl _ | exact LeO.none _ | refine LeO.ite ?_ ?_ | refine LeO.bind ?_ (fun _ => ?_)) | exact LeO.none _ | refine LeO.ite ?_ ?_ | refine LeO.bind ?_ (fun _ => ?_)
theorem rat_Mul.mono : ∀ a0 a1 a2 a3 a4 a5 k, LeO (rat_Mul.f k a0 a1 a2 a3 a4 a5) (rat_Mul.f (k + 1) a0 a1 a2 a3 a4 a5) := by
 intro a0 a1 a2 a3 a4 a5 k
 have ih0 := rat_Mul.mono_l k
 unfold rat_Mul.f
 repeat' first | (with_reducible first | exact ih0 _ _ _ _ _ _ _ | exact mul_Of.mono _ _ _ | exact rat_Good.mono _ _ _ _ | exact rat_Of.mono _ _ _ _ | exact whole_Mul.mono _ _ _ _ _ | exact LeO.refl _ | exact LeO.none _ | refine LeO.ite ?_ ?_ | refine LeO.bind ?_ (fun _ => ?_)) | exact LeO.none _ | refine LeO.ite ?_ ?_ | refine LeO.bind ?_ (fun _ => ?_)
def rat_Whole.f (k : Nat) (a0 : Int) : Option (Bool × List Int × List Int) := (whole_Of.f k a0).bind fun bt999 => ((nat_Of.f k 1).bind fun t1003 => (some (bt999.1, bt999.2, t1003)))
theorem rat_Whole.mono : ∀ a0 k, LeO (rat_Whole.f k a0) (rat_Whole.f (k + 1) a0) := by
 intro a0 k
 unfold rat_Whole.f
 repeat' first | (with_reducible first | exact nat_Of.mono _ _ | exact whole_Of.mono _ _ | exact LeO.refl _ | exact LeO.none _ | refine LeO.ite ?_ ?_ | refine LeO.bind ?_ (fun _ => ?_)) | exact LeO.none _ | refine LeO.ite ?_ ?_ | refine LeO.bind ?_ (fun _ => ?_)
def rat_cross.f (k : Nat) (a0_0 : Bool) (l0_1 : List Int) (l0_2 : List Int) (a1_0 : Bool) (l1_1 : List Int) (l1_2 : List Int) : Option (Bool × List Int) := (whole_Mul.f k a0_0 l0_1 false l1_2).bind fun bt1009 => (some (bt1009.1, bt1009.2))
theorem rat_cross.mono : ∀ a0 a1 a2 a3 a4 a5 k, LeO (rat_cross.f k a0 a1 a2 a3 a4 a5) (rat_cross.f (k + 1) a0 a1 a2 a3 a4 a5) := by
 intro a0 a1 a2 a3 a4 a5 k
 unfold rat_cross.f
 repeat' first | (with_reducible first | exact whole_Mul.mono _ _ _ _ _ | exact LeO.refl _ | exact LeO.none _ | refine LeO.ite ?_ ?_ | refine LeO.bind ?_ (fun _ => ?_)) | exact LeO.none _ | refine LeO.ite ?_ ?_ | refine LeO.bind ?_ (fun _ => ?_)
def rat_Div.j0 : Nat → Bool → Bool → List Int → List Int → Bool → List Int → List Int → Option (Bool × List Int × List Int × Int)
 | 0, _, _, _, _, _, _, _ => none
 | k + 1, x14, x1014000, x1014001, x1014002, x1015000, x1015001, x1015002 => if x14 = true then (some (false, ([] : List Int), ([] : List Int), 1)) else ((rat_cross.f k x1014000 x1014001 x1014002 x1015000 x1015001 x1015002).bind fun bt1018 => ((mul_Of.f k x1014002 x1015001).bind fun t1023 => ((rat_Of.f k (bt1018.1 != x1015000) bt1018.2 t1023).bind fun bt1026 => (some (bt1026.1, bt1026.2.1, bt1026.2.2.1, bt1026.2.2.2)))))
def rat_Div.f (k : Nat) (a0_0 : Bool) (l0_1 : List Int) (l0_2 : List Int) (a1_0 : Bool) (l1_1 : List Int) (l1_2 : List Int) : Option (Bool × List Int × List Int × Int) := (rat_Good.f k a0_0 l0_1 l0_2).bind fun t1016 => (if t1016 = true then ((rat_Good.f k a1_0 l1_1 l1_2).bind fun t1017 => (rat_Div.j0 k (!t1017) a0_0 l0_1 l0_2 a1_0 l1_1 l1_2)) else (rat_Div.j0 k true a0_0 l0_1 l0_2 a1_0 l1_1 l1_2))
theorem rat_Div.mono_l : ∀ k, (∀ y0 y1 y2 y3 y4 y5 y6, LeO (rat_Div.j0 k y0 y1 y2 y3 y4 y5 y6) (rat_Div.j0 (k + 1) y0 y1 y2 y3 y4 y5 y6))
 | 0 => fun _ _ _ _ _ _ _ r h => by simp [rat_Div.j0] at h
 | k + 1 => by
  have ih0 := rat_Div.mono_l k
  ·intro y0 y1 y2 y3 y4 y5 y6
   unfold rat_Div.j0
   repeat' first | (with_reducible first | exact ih0 _ _ _ _ _ _ _ | exact mul_Of.mono _ _ _ | exact rat_Good.mono _ _ _ _ | exact rat_Of.mono _ _ _ _ | exact rat_cross.mono _ _ _ _ _ _ _ | exact LeO.refl _ | exact LeO.none _ | refine LeO.ite ?_ ?_ | refine LeO.bind ?_ (fun _ => ?_)) | exact LeO.none _ | refine LeO.ite ?_ ?_ | refine LeO.bind ?_ (fun _ => ?_)
theorem rat_Div.mono : ∀ a0 a1 a2 a3 a4 a5 k, LeO (rat_Div.f k a0 a1 a2 a3 a4 a5) (rat_Div.f (k + 1) a0 a1 a2 a3 a4 a5) := by
 intro a0 a1 a2 a3 a4 a5 k
 have ih0 := rat_Div.mono_l k
 unfold rat_Div.f
 repeat' first | (with_reducible first | exact ih0 _ _ _ _ _ _ _ | exact mul_Of.mono _ _ _ | exact rat_Good.mono _ _ _ _ | exact rat_Of.mono _ _ _ _ | exact rat_cross.mono _ _ _ _ _ _ _ | exact LeO.refl _ | exact LeO.none _ | refine LeO.ite ?_ ?_ | refine LeO.bind ?_ (fun _ => ?_)) | exact LeO.none _ | refine LeO.ite ?_ ?_ | refine LeO.bind ?_ (fun _ => ?_)
def rat_Neg.f (k : Nat) (a0_0 : Bool) (l0_1 : List Int) (l0_2 : List Int) : Option (Bool × List Int × List Int) := (rat_Good.f k a0_0 l0_1 l0_2).bind fun t1073 => (if t1073 = true then (if 0 ≤ (l0_2.length : Int) then (if ((l0_2.length : Int) : Int).toNat ≤ 70368744177664 then ((whole_Neg.f k a0_0 l0_1).bind fun bt1078 => (some (bt1078.1, bt1078.2, (cpy (List.replicate ((l0_2.length : Int) : Int).toNat 0) 0 l0_2)))) else (none)) else (none)) else (some (false, ([] : List Int), ([] : List Int))))
theorem rat_Neg.mono : ∀ a0 a1 a2 k, LeO (rat_Neg.f k a0 a1 a2) (rat_Neg.f (k + 1) a0 a1 a2) := by
 intro a0 a1 a2 k
 unfold rat_Neg.f
 repeat' first | (with_reducible first | exact rat_Good.mono _ _ _ _ | exact whole_Neg.mono _ _ _ | exact LeO.refl _ | exact LeO.none _ | refine LeO.ite ?_ ?_ | refine LeO.bind ?_ (fun _ => ?_)) | exact LeO.none _ | refine LeO.ite ?_ ?_ | refine LeO.bind ?_ (fun _ => ?_)
def rat_Sign.f (k : Nat) (a0_0 : Bool) (l0_1 : List Int) (l0_2 : List Int) : Option (Int) := (rat_Good.f k a0_0 l0_1 l0_2).bind fun t1112 => (if t1112 = true then ((whole_Cmp.f k a0_0 l0_1 false ([] : List Int)).bind fun t1113 => (some t1113)) else (some 0))
theorem rat_Sign.mono : ∀ a0 a1 a2 k, LeO (rat_Sign.f k a0 a1 a2) (rat_Sign.f (k + 1) a0 a1 a2) := by
 intro a0 a1 a2 k
 unfold rat_Sign.f
 repeat' first | (with_reducible first | exact rat_Good.mono _ _ _ _ | exact whole_Cmp.mono _ _ _ _ _ | exact LeO.refl _ | exact LeO.none _ | refine LeO.ite ?_ ?_ | refine LeO.bind ?_ (fun _ => ?_)) | exact LeO.none _ | refine LeO.ite ?_ ?_ | refine LeO.bind ?_ (fun _ => ?_)
end Go.Proofs.YtpchdjdochkjpaaGreatDoor.P
set_option linter.unusedVariables false
set_option linter.unusedSimpArgs false
namespace Go.Proofs.YtpchdjdochkjpaaGreatDoor.P
open Go.RowKit Go.Proofs.YtpchdjdochkjpaaGreatDoorW.PrintWords Go.Proofs.YtpchdjdochkjpaaGreatDoorW.PrintLast Go.Proofs.YtpchdjdochkjpaaGreatDoorW.PrintMore
def power_within.f (a0 : Int) (a1 : Int) : Option (Bool) := if a0 ≥ (wrap64 (-a1)) then (some (decide (a0 ≤ a1))) else (some false)
def power_turned.f (k : Nat) (a0_0 : Bool) (l0_1 : List Int) (l0_2 : List Int) : Option (Bool × List Int × List Int × Int) := (rat_Whole.f k 1).bind fun bt1137 => ((rat_Div.f k bt1137.1 bt1137.2.1 bt1137.2.2 a0_0 l0_1 l0_2).bind fun bt1144 => (some (bt1144.1, bt1144.2.1, bt1144.2.2.1, bt1144.2.2.2)))
theorem power_turned.mono : ∀ a0 a1 a2 k, LeO (power_turned.f k a0 a1 a2) (power_turned.f (k + 1) a0 a1 a2) := by
 intro a0 a1 a2 k
 unfold power_turned.f
 repeat' first | (with_reducible first | exact rat_Div.mono _ _ _ _ _ _ _ | exact rat_Whole.mono _ _ | exact LeO.refl _ | exact LeO.none _ | refine LeO.ite ?_ ?_ | refine LeO.bind ?_ (fun _ => ?_)) | exact LeO.none _ | refine LeO.ite ?_ ?_ | refine LeO.bind ?_ (fun _ => ?_)
def power_Of.f : Nat → Bool → List Int → List Int → Int → Option (Bool × List Int × List Int × Int)
 | 0, _, _, _, _ => none
 | k + 1, a0_0, l0_1, l0_2, a1 => (rat_Good.f k a0_0 l0_1 l0_2).bind fun t1172 => (if t1172 = true then ((power_within.f a1 128).bind fun t1173 => (if t1173 = true then (if a1 = 0 then ((rat_Whole.f k 1).bind fun bt1174 => (some (bt1174.1, bt1174.2.1, bt1174.2.2, 0))) else (if a1 < 0 then ((power_turned.f k a0_0 l0_1 l0_2).bind fun bt1181 => (if bt1181.2.2.2 = 0 then ((power_Of.f k bt1181.1 bt1181.2.1 bt1181.2.2.1 (wrap64 (-a1))).bind fun bt1190 => (some (bt1190.1, bt1190.2.1, bt1190.2.2.1, bt1190.2.2.2))) else (some (false, ([] : List Int), ([] : List Int), bt1181.2.2.2)))) else ((mul_Pow.f k l0_1 a1).bind fun bt1198 => ((mul_Pow.f k l0_2 a1).bind fun bt1202 => (if bt1198.2 = true then (if bt1202.2 = true then (if 0 ≤ (bt1202.1.length : Int) then (if ((bt1202.1.length : Int) : Int).toNat ≤ 70368744177664 then ((some (cpy (List.replicate ((bt1202.1.length : Int) : Int).toNat 0) 0 bt1202.1 : List Int)).bind fun y1209 => (if a0_0 = true then ((rat_Of.f k ((Int.tmod a1 2) == 1) bt1198.1 y1209).bind fun bt1210 => (some (bt1210.1, bt1210.2.1, bt1210.2.2.1, bt1210.2.2.2))) else ((rat_Of.f k false bt1198.1 y1209).bind fun bt1218 => (some (bt1218.1, bt1218.2.1, bt1218.2.2.1, bt1218.2.2.2))))) else (none)) else (none)) else (some (false, ([] : List Int), ([] : List Int), 2))) else (some (false, ([] : List Int), ([] : List Int), 2))))))) else (some (false, ([] : List Int), ([] : List Int), 2)))) else (some (false, ([] : List Int), ([] : List Int), 1)))
theorem power_Of.mono_l : ∀ k, (∀ y0 y1 y2 y3, LeO (power_Of.f k y0 y1 y2 y3) (power_Of.f (k + 1) y0 y1 y2 y3))
 | 0 => fun _ _ _ _ r h => by simp [power_Of.f] at h
 | k + 1 => by
  have ih0 := power_Of.mono_l k
  ·intro y0 y1 y2 y3
   unfold power_Of.f
   repeat' first | (with_reducible first | exact ih0 _ _ _ _ | exact mul_Pow.mono _ _ _ | exact power_turned.mono _ _ _ _ | exact rat_Good.mono _ _ _ _ | exact rat_Of.mono _ _ _ _ | exact rat_Whole.mono _ _ | exact LeO.refl _ | exact LeO.none _ | refine LeO.ite ?_ ?_ | refine LeO.bind ?_ (fun _ => ?_)) | exact LeO.none _ | refine LeO.ite ?_ ?_ | refine LeO.bind ?_ (fun _ => ?_)
theorem power_Of.mono : ∀ a0 a1 a2 a3 k, LeO (power_Of.f k a0 a1 a2 a3) (power_Of.f (k + 1) a0 a1 a2 a3) := by
 intro a0 a1 a2 a3 k
 have ih0 := power_Of.mono_l k
 exact ih0 a0 a1 a2 a3
end Go.Proofs.YtpchdjdochkjpaaGreatDoor.P
set_option linter.unusedVariables false
set_option linter.unusedSimpArgs false
namespace Go.Proofs.YtpchdjdochkjpaaGreatDoor.P
open Go.RowKit Go.Proofs.YtpchdjdochkjpaaGreatDoorW.PrintWords Go.Proofs.YtpchdjdochkjpaaGreatDoorW.PrintLast Go.Proofs.YtpchdjdochkjpaaGreatDoorW.PrintMore
def steelyardkeep_Nat.l0 : Nat → List Int → List Int → Int → Option (Bool)
 | 0, _, _, _ => none
 | k + 1, x0, x1, x5 => if x5 < (x0.length : Int) then (if 0 ≤ x5 then (if x5 < (x1.length : Int) then (if (rd x0 x5) = (rd x1 x5) then (steelyardkeep_Nat.l0 k x0 x1 (wrap64 (x5 + 1))) else (some false)) else (none)) else (none)) else (some true)
def steelyardkeep_Nat.f (k : Nat) (l0 : List Int) (l1 : List Int) : Option (Bool) := if (l0.length : Int) = (l1.length : Int) then (steelyardkeep_Nat.l0 k l0 l1 0) else (some false)
theorem steelyardkeep_Nat.mono_l : ∀ k, (∀ y0 y1 y2, LeO (steelyardkeep_Nat.l0 k y0 y1 y2) (steelyardkeep_Nat.l0 (k + 1) y0 y1 y2))
 | 0 => fun _ _ _ r h => by simp [steelyardkeep_Nat.l0] at h
 | k + 1 => by
  have ih0 := steelyardkeep_Nat.mono_l k
  ·intro y0 y1 y2
   unfold steelyardkeep_Nat.l0
   repeat' first | (with_reducible first | exact ih0 _ _ _ | exact LeO.refl _ | exact LeO.none _ | refine LeO.ite ?_ ?_ | refine LeO.bind ?_ (fun _ => ?_)) | exact LeO.none _ | refine LeO.ite ?_ ?_ | refine LeO.bind ?_ (fun _ => ?_)
theorem steelyardkeep_Nat.mono : ∀ a0 a1 k, LeO (steelyardkeep_Nat.f k a0 a1) (steelyardkeep_Nat.f (k + 1) a0 a1) := by
 intro a0 a1 k
 have ih0 := steelyardkeep_Nat.mono_l k
 unfold steelyardkeep_Nat.f
 repeat' first | (with_reducible first | exact ih0 _ _ _ | exact LeO.refl _ | exact LeO.none _ | refine LeO.ite ?_ ?_ | refine LeO.bind ?_ (fun _ => ?_)) | exact LeO.none _ | refine LeO.ite ?_ ?_ | refine LeO.bind ?_ (fun _ => ?_)
def steelyardkeep_Int.f (k : Nat) (a0_0 : Bool) (l0_1 : List Int) (a1_0 : Bool) (l1_1 : List Int) : Option (Bool) := if (a0_0 == a1_0) = true then ((steelyardkeep_Nat.f k l0_1 l1_1).bind fun t1123 => (some t1123)) else (some false)
theorem steelyardkeep_Int.mono : ∀ a0 a1 a2 a3 k, LeO (steelyardkeep_Int.f k a0 a1 a2 a3) (steelyardkeep_Int.f (k + 1) a0 a1 a2 a3) := by
 intro a0 a1 a2 a3 k
 unfold steelyardkeep_Int.f
 repeat' first | (with_reducible first | exact steelyardkeep_Nat.mono _ _ _ | exact LeO.refl _ | exact LeO.none _ | refine LeO.ite ?_ ?_ | refine LeO.bind ?_ (fun _ => ?_)) | exact LeO.none _ | refine LeO.ite ?_ ?_ | refine LeO.bind ?_ (fun _ => ?_)
def steelyardkeep_Rat.f (k : Nat) (a0_0 : Bool) (l0_1 : List Int) (l0_2 : List Int) (a1_0 : Bool) (l1_1 : List Int) (l1_2 : List Int) : Option (Bool) := (steelyardkeep_Int.f k a0_0 l0_1 a1_0 l1_1).bind fun t1126 => (if t1126 = true then ((steelyardkeep_Nat.f k l0_2 l1_2).bind fun t1127 => (some t1127)) else (some false))
theorem steelyardkeep_Rat.mono : ∀ a0 a1 a2 a3 a4 a5 k, LeO (steelyardkeep_Rat.f k a0 a1 a2 a3 a4 a5) (steelyardkeep_Rat.f (k + 1) a0 a1 a2 a3 a4 a5) := by
 intro a0 a1 a2 a3 a4 a5 k
 unfold steelyardkeep_Rat.f
 repeat' first | (with_reducible first | exact steelyardkeep_Int.mono _ _ _ _ _ | exact steelyardkeep_Nat.mono _ _ _ | exact LeO.refl _ | exact LeO.none _ | refine LeO.ite ?_ ?_ | refine LeO.bind ?_ (fun _ => ?_)) | exact LeO.none _ | refine LeO.ite ?_ ?_ | refine LeO.bind ?_ (fun _ => ?_)
def steelyardkeep_Unit.f (k : Nat) (a b : Un) : Option Bool := if ((decide (a.d.d0 = b.d.d0) && (decide (a.d.d1 = b.d.d1) && (decide (a.d.d2 = b.d.d2) && (decide (a.d.d3 = b.d.d3) && (decide (a.d.d4 = b.d.d4) && (decide (a.d.d5 = b.d.d5) && (decide (a.d.d6 = b.d.d6))))))))) = true then ((steelyardkeep_Rat.f k a.g a.m a.b b.g b.m b.b).bind fun t => (some t)) else (some false)
theorem steelyardkeep_Unit.mono : ∀ y0 y1 k, LeO (steelyardkeep_Unit.f k y0 y1) (steelyardkeep_Unit.f (k + 1) y0 y1) := by
 intro y0 y1 k
 unfold steelyardkeep_Unit.f
 repeat' first | (with_reducible first | exact steelyardkeep_Rat.mono _ _ _ _ _ _ _ | exact LeO.refl _ | exact LeO.none _ | refine LeO.ite ?_ ?_ | refine LeO.bind ?_ (fun _ => ?_) | refine LeO.lkp (fun _ => ?_) ?_ | refine LeO.mput (fun _ => ?_)) | refine LeO.ite ?_ ?_ | refine LeO.bind ?_ (fun _ => ?_)
end Go.Proofs.YtpchdjdochkjpaaGreatDoor.P
set_option linter.unusedVariables false
set_option linter.unusedSimpArgs false
namespace Go.Proofs.YtpchdjdochkjpaaGreatDoor.P
open Go.RowKit Go.Proofs.YtpchdjdochkjpaaGreatDoorW.PrintWords Go.Proofs.YtpchdjdochkjpaaGreatDoorW.PrintLast Go.Proofs.YtpchdjdochkjpaaGreatDoorW.PrintMore
def steelyardref01_Trim.l0 : Nat → List Int → Int → Option (List Int)
 | 0, _, _ => none
 | k + 1, x0, x3 => if x3 > 0 then (if 0 ≤ (wrap64 (x3 - 1)) then (if (wrap64 (x3 - 1)) < (x0.length : Int) then (if (rd x0 (wrap64 (x3 - 1))) = 0 then (steelyardref01_Trim.l0 k x0 (wrap64 (x3 - 1))) else ((some (([] : List Int) : List Int)).bind fun y103 => (if 0 ≤ x3 then (if x3 ≤ (x0.length : Int) then (if y103.length + (x0.take (x3 : Int).toNat).length < 35184372088832 then (some (y103 ++ (x0.take (x3 : Int).toNat))) else (none)) else (none)) else (none)))) else (none)) else (none)) else ((some (([] : List Int) : List Int)).bind fun y110 => (if 0 ≤ x3 then (if x3 ≤ (x0.length : Int) then (if y110.length + (x0.take (x3 : Int).toNat).length < 35184372088832 then (some (y110 ++ (x0.take (x3 : Int).toNat))) else (none)) else (none)) else (none)))
def steelyardref01_Trim.f (k : Nat) (l0 : List Int) : Option (List Int) := steelyardref01_Trim.l0 k l0 (l0.length : Int)
theorem steelyardref01_Trim.mono_l : ∀ k, (∀ y0 y1, LeO (steelyardref01_Trim.l0 k y0 y1) (steelyardref01_Trim.l0 (k + 1) y0 y1))
 | 0 => fun _ _ r h => by simp [steelyardref01_Trim.l0] at h
 | k + 1 => by
  have ih0 := steelyardref01_Trim.mono_l k
  ·intro y0 y1
   unfold steelyardref01_Trim.l0
   repeat' first | (with_reducible first | exact ih0 _ _ | exact LeO.refl _ | exact LeO.none _ | refine LeO.ite ?_ ?_ | refine LeO.bind ?_ (fun _ => ?_)) | exact LeO.none _ | refine LeO.ite ?_ ?_ | refine LeO.bind ?_ (fun _ => ?_)
theorem steelyardref01_Trim.mono : ∀ a0 k, LeO (steelyardref01_Trim.f k a0) (steelyardref01_Trim.f (k + 1) a0) := by
 intro a0 k
 have ih0 := steelyardref01_Trim.mono_l k
 unfold steelyardref01_Trim.f
 repeat' first | (with_reducible first | exact ih0 _ _ | exact LeO.refl _ | exact LeO.none _ | refine LeO.ite ?_ ?_ | refine LeO.bind ?_ (fun _ => ?_)) | exact LeO.none _ | refine LeO.ite ?_ ?_ | refine LeO.bind ?_ (fun _ => ?_)
def steelyardref01_Of.f (k : Nat) (a0 : Int) : Option (List Int) := (steelyardref01_Trim.f k (([(a0) % 4294967296, (a0 / 4294967296) % 4294967296] : List Int))).bind fun t124 => (some t124)
theorem steelyardref01_Of.mono : ∀ a0 k, LeO (steelyardref01_Of.f k a0) (steelyardref01_Of.f (k + 1) a0) := by
 intro a0 k
 unfold steelyardref01_Of.f
 repeat' first | (with_reducible first | exact steelyardref01_Trim.mono _ _ | exact LeO.refl _ | exact LeO.none _ | refine LeO.ite ?_ ?_ | refine LeO.bind ?_ (fun _ => ?_)) | exact LeO.none _ | refine LeO.ite ?_ ?_ | refine LeO.bind ?_ (fun _ => ?_)
def steelyardref01_at.f (l0 : List Int) (a1 : Int) : Option (Int) := if a1 ≥ (l0.length : Int) then (some 0) else (if 0 ≤ a1 then (if a1 < (l0.length : Int) then (some (IntKind.u64.wrap (rd l0 a1))) else (none)) else (none))
def steelyardref01_Bit.f (l0 : List Int) (a1 : Int) : Option (Bool) := if a1 ≥ 0 then ((steelyardref01_at.f l0 (wrap64 (Int.tdiv a1 32))).bind fun t165 => (if 0 ≤ (IntKind.u64.wrap (Int.tmod a1 32)) then (some ((Go.bits .and .u64 (shr .u64 t165 (IntKind.u64.wrap (Int.tmod a1 32))) 1) == 1)) else (none))) else (some false)
def steelyardref01_Bits.l0 : Nat → List Int → Int → Option (Int)
 | 0, _, _ => none
 | k + 1, x0, x3 => if x3 > 0 then ((steelyardref01_Bit.f x0 (wrap64 (x3 - 1))).bind fun t166 => (if t166 = true then (some x3) else (steelyardref01_Bits.l0 k x0 (wrap64 (x3 - 1))))) else (some x3)
def steelyardref01_Bits.f (k : Nat) (l0 : List Int) : Option (Int) := steelyardref01_Bits.l0 k l0 (wrap64 (32 * (l0.length : Int)))
theorem steelyardref01_Bits.mono_l : ∀ k, (∀ y0 y1, LeO (steelyardref01_Bits.l0 k y0 y1) (steelyardref01_Bits.l0 (k + 1) y0 y1))
 | 0 => fun _ _ r h => by simp [steelyardref01_Bits.l0] at h
 | k + 1 => by
  have ih0 := steelyardref01_Bits.mono_l k
  ·intro y0 y1
   unfold steelyardref01_Bits.l0
   repeat' first | (with_reducible first | exact ih0 _ _ | exact LeO.refl _ | exact LeO.none _ | refine LeO.ite ?_ ?_ | refine LeO.bind ?_ (fun _ => ?_)) | exact LeO.none _ | refine LeO.ite ?_ ?_ | refine LeO.bind ?_ (fun _ => ?_)
theorem steelyardref01_Bits.mono : ∀ a0 k, LeO (steelyardref01_Bits.f k a0) (steelyardref01_Bits.f (k + 1) a0) := by
 intro a0 k
 have ih0 := steelyardref01_Bits.mono_l k
 unfold steelyardref01_Bits.f
 repeat' first | (with_reducible first | exact ih0 _ _ | exact LeO.refl _ | exact LeO.none _ | refine LeO.ite ?_ ?_ | refine LeO.bind ?_ (fun _ => ?_)) | exact LeO.none _ | refine LeO.ite ?_ ?_ | refine LeO.bind ?_ (fun _ => ?_)
def steelyardref01_Cmp.l0 : Nat → List Int → List Int → Int → Option (Int)
 | 0, _, _, _ => none
 | k + 1, x0, x1, x5 => if x5 ≥ 0 then ((steelyardref01_at.f x0 x5).bind fun t167 => ((steelyardref01_at.f x1 x5).bind fun t168 => (if t167 < t168 then (some (-1)) else ((steelyardref01_at.f x0 x5).bind fun t169 => ((steelyardref01_at.f x1 x5).bind fun t170 => (if t169 > t170 then (some 1) else (steelyardref01_Cmp.l0 k x0 x1 (wrap64 (x5 - 1))))))))) else (some 0)
def steelyardref01_Cmp.f (k : Nat) (l0 : List Int) (l1 : List Int) : Option (Int) := steelyardref01_Cmp.l0 k l0 l1 (wrap64 ((mx (l0.length : Int) (l1.length : Int)) - 1))
theorem steelyardref01_Cmp.mono_l : ∀ k, (∀ y0 y1 y2, LeO (steelyardref01_Cmp.l0 k y0 y1 y2) (steelyardref01_Cmp.l0 (k + 1) y0 y1 y2))
 | 0 => fun _ _ _ r h => by simp [steelyardref01_Cmp.l0] at h
 | k + 1 => by
  have ih0 := steelyardref01_Cmp.mono_l k
  ·intro y0 y1 y2
   unfold steelyardref01_Cmp.l0
   repeat' first | (with_reducible first | exact ih0 _ _ _ | exact LeO.refl _ | exact LeO.none _ | refine LeO.ite ?_ ?_ | refine LeO.bind ?_ (fun _ => ?_)) | exact LeO.none _ | refine LeO.ite ?_ ?_ | refine LeO.bind ?_ (fun _ => ?_)
theorem steelyardref01_Cmp.mono : ∀ a0 a1 k, LeO (steelyardref01_Cmp.f k a0 a1) (steelyardref01_Cmp.f (k + 1) a0 a1) := by
 intro a0 a1 k
 have ih0 := steelyardref01_Cmp.mono_l k
 unfold steelyardref01_Cmp.f
 repeat' first | (with_reducible first | exact ih0 _ _ _ | exact LeO.refl _ | exact LeO.none _ | refine LeO.ite ?_ ?_ | refine LeO.bind ?_ (fun _ => ?_)) | exact LeO.none _ | refine LeO.ite ?_ ?_ | refine LeO.bind ?_ (fun _ => ?_)
def steelyardref01_Sub.l0 : Nat → List Int → List Int → List Int → Int → Int → Option (List Int)
 | 0, _, _, _, _, _ => none
 | k + 1, x0, x1, x5, x6, x7 => if x7 < (x0.length : Int) then ((steelyardref01_at.f x0 x7).bind fun t174 => ((steelyardref01_at.f x1 x7).bind fun t175 => (if t174 < (IntKind.u64.wrap (t175 + x6)) then (if x5.length < 35184372088832 then (steelyardref01_Sub.l0 k x0 x1 (x5 ++ [(IntKind.u64.wrap ((IntKind.u64.wrap (t174 + 4294967296)) - (IntKind.u64.wrap (t175 + x6)))) % 4294967296]) 1 (wrap64 (x7 + 1))) else (none)) else (if x5.length < 35184372088832 then (steelyardref01_Sub.l0 k x0 x1 (x5 ++ [(IntKind.u64.wrap (t174 - (IntKind.u64.wrap (t175 + x6)))) % 4294967296]) 0 (wrap64 (x7 + 1))) else (none))))) else ((steelyardref01_Trim.f k x5).bind fun t171 => (some t171))
def steelyardref01_Sub.f (k : Nat) (l0 : List Int) (l1 : List Int) : Option (List Int) := steelyardref01_Sub.l0 k l0 l1 ([] : List Int) 0 0
theorem steelyardref01_Sub.mono_l : ∀ k, (∀ y0 y1 y2 y3 y4, LeO (steelyardref01_Sub.l0 k y0 y1 y2 y3 y4) (steelyardref01_Sub.l0 (k + 1) y0 y1 y2 y3 y4))
 | 0 => fun _ _ _ _ _ r h => by simp [steelyardref01_Sub.l0] at h
 | k + 1 => by
  have ih0 := steelyardref01_Sub.mono_l k
  ·intro y0 y1 y2 y3 y4
   unfold steelyardref01_Sub.l0
   repeat' first | (with_reducible first | exact ih0 _ _ _ _ _ | exact steelyardref01_Trim.mono _ _ | exact LeO.refl _ | exact LeO.none _ | refine LeO.ite ?_ ?_ | refine LeO.bind ?_ (fun _ => ?_)) | exact LeO.none _ | refine LeO.ite ?_ ?_ | refine LeO.bind ?_ (fun _ => ?_)
theorem steelyardref01_Sub.mono : ∀ a0 a1 k, LeO (steelyardref01_Sub.f k a0 a1) (steelyardref01_Sub.f (k + 1) a0 a1) := by
 intro a0 a1 k
 have ih0 := steelyardref01_Sub.mono_l k
 unfold steelyardref01_Sub.f
 repeat' first | (with_reducible first | exact ih0 _ _ _ _ _ | exact steelyardref01_Trim.mono _ _ | exact LeO.refl _ | exact LeO.none _ | refine LeO.ite ?_ ?_ | refine LeO.bind ?_ (fun _ => ?_)) | exact LeO.none _ | refine LeO.ite ?_ ?_ | refine LeO.bind ?_ (fun _ => ?_)
mutual
def steelyardref01_Add.l0 : Nat → List Int → List Int → List Int → Int → Int → Option (List Int)
 | 0, _, _, _, _, _ => none
 | k + 1, x0, x1, x5, x6, x7 => if x7 < (x0.length : Int) then (steelyardref01_Add.j1 k x0 x1 x5 x6 x7 true) else (if x7 < (x1.length : Int) then (steelyardref01_Add.j1 k x0 x1 x5 x6 x7 true) else (steelyardref01_Add.j1 k x0 x1 x5 x6 x7 (decide (x6 > 0))))
def steelyardref01_Add.j1 : Nat → List Int → List Int → List Int → Int → Int → Bool → Option (List Int)
 | 0, _, _, _, _, _, _ => none
 | k + 1, x0, x1, x5, x6, x7, x21 => if x21 = true then ((steelyardref01_at.f x0 x7).bind fun t281 => ((steelyardref01_at.f x1 x7).bind fun t282 => (if x5.length < 35184372088832 then (steelyardref01_Add.l0 k x0 x1 (x5 ++ [(IntKind.u64.wrap (x6 + (IntKind.u64.wrap (t281 + t282)))) % 4294967296]) ((IntKind.u64.wrap (x6 + (IntKind.u64.wrap (t281 + t282)))) / 4294967296) (wrap64 (x7 + 1))) else (none)))) else ((steelyardref01_Trim.f k x5).bind fun t286 => (some t286))
end
def steelyardref01_Add.f (k : Nat) (l0 : List Int) (l1 : List Int) : Option (List Int) := steelyardref01_Add.l0 k l0 l1 ([] : List Int) 0 0
theorem steelyardref01_Add.mono_l : ∀ k, (∀ y0 y1 y2 y3 y4, LeO (steelyardref01_Add.l0 k y0 y1 y2 y3 y4) (steelyardref01_Add.l0 (k + 1) y0 y1 y2 y3 y4)) ∧ (∀ y0 y1 y2 y3 y4 y5, LeO (steelyardref01_Add.j1 k y0 y1 y2 y3 y4 y5) (steelyardref01_Add.j1 (k + 1) y0 y1 y2 y3 y4 y5))
 | 0 => ⟨fun _ _ _ _ _ r h => by simp [steelyardref01_Add.l0] at h, fun _ _ _ _ _ _ r h => by simp [steelyardref01_Add.j1] at h⟩
 | k + 1 => by
  obtain ⟨ih0, ih1⟩ := steelyardref01_Add.mono_l k
  refine ⟨?_, ?_⟩
  ·intro y0 y1 y2 y3 y4
   unfold steelyardref01_Add.l0
   repeat' first | (with_reducible first | exact ih0 _ _ _ _ _ | exact ih1 _ _ _ _ _ _ | exact steelyardref01_Trim.mono _ _ | exact LeO.refl _ | exact LeO.none _ | refine LeO.ite ?_ ?_ | refine LeO.bind ?_ (fun _ => ?_)) | exact LeO.none _ | refine LeO.ite ?_ ?_ | refine LeO.bind ?_ (fun _ => ?_)
  ·intro y0 y1 y2 y3 y4 y5
   unfold steelyardref01_Add.j1
   repeat' first | (with_reducible first | exact ih0 _ _ _ _ _ | exact ih1 _ _ _ _ _ _ | exact steelyardref01_Trim.mono _ _ | exact LeO.refl _ | exact LeO.none _ | refine LeO.ite ?_ ?_ | refine LeO.bind ?_ (fun _ => ?_)) | exact LeO.none _ | refine LeO.ite ?_ ?_ | refine LeO.bind ?_ (fun _ => ?_)
theorem steelyardref01_Add.mono : ∀ a0 a1 k, LeO (steelyardref01_Add.f k a0 a1) (steelyardref01_Add.f (k + 1) a0 a1) := by
 intro a0 a1 k
 obtain ⟨ih0, ih1⟩ := steelyardref01_Add.mono_l k
 unfold steelyardref01_Add.f
 repeat' first | (with_reducible first | exact ih0 _ _ _ _ _ | exact ih1 _ _ _ _ _ _ | exact steelyardref01_Trim.mono _ _ | exact LeO.refl _ | exact LeO.none _ | refine LeO.ite ?_ ?_ | refine LeO.bind ?_ (fun _ => ?_)) | exact LeO.none _ | refine LeO.ite ?_ ?_ | refine LeO.bind ?_ (fun _ => ?_)
end Go.Proofs.YtpchdjdochkjpaaGreatDoor.P
set_option linter.unusedVariables false
set_option linter.unusedSimpArgs false
namespace Go.Proofs.YtpchdjdochkjpaaGreatDoor.P
open Go.RowKit Go.Proofs.YtpchdjdochkjpaaGreatDoorW.PrintWords Go.Proofs.YtpchdjdochkjpaaGreatDoorW.PrintLast Go.Proofs.YtpchdjdochkjpaaGreatDoorW.PrintMore
def steelyardref02_Up.l0 : Nat → List Int → Int → List Int → Int → Int → Option (List Int)
 | 0, _, _, _, _, _ => none
 | k + 1, x0, x1, x5, x6, x7 => if x7 < (x0.length : Int) then (if 0 ≤ x7 then (if 0 ≤ (IntKind.u64.wrap (Int.tmod x1 32)) then (if x5.length < 35184372088832 then (steelyardref02_Up.l0 k x0 x1 (x5 ++ [(Go.bits .or .u64 x6 (shl .u64 (IntKind.u64.wrap (rd x0 x7)) (IntKind.u64.wrap (Int.tmod x1 32)))) % 4294967296]) ((Go.bits .or .u64 x6 (shl .u64 (IntKind.u64.wrap (rd x0 x7)) (IntKind.u64.wrap (Int.tmod x1 32)))) / 4294967296) (wrap64 (x7 + 1))) else (none)) else (none)) else (none)) else (if x5.length < 35184372088832 then ((steelyardref01_Trim.f k (x5 ++ [(x6) % 4294967296])).bind fun t161 => (some t161)) else (none))
def steelyardref02_Up.f (k : Nat) (l0 : List Int) (a1 : Int) : Option (List Int) := if 0 ≤ (wrap64 (Int.tdiv a1 32)) then (if (wrap64 (Int.tdiv a1 32)) ≤ (wrap64 ((wrap64 ((wrap64 (Int.tdiv a1 32)) + (l0.length : Int))) + 1)) then (if (wrap64 ((wrap64 ((wrap64 (Int.tdiv a1 32)) + (l0.length : Int))) + 1) : Int).toNat ≤ 70368744177664 then (steelyardref02_Up.l0 k l0 a1 (List.replicate (wrap64 (Int.tdiv a1 32) : Int).toNat 0) 0 0) else (none)) else (none)) else (none)
theorem steelyardref02_Up.mono_l : ∀ k, (∀ y0 y1 y2 y3 y4, LeO (steelyardref02_Up.l0 k y0 y1 y2 y3 y4) (steelyardref02_Up.l0 (k + 1) y0 y1 y2 y3 y4))
 | 0 => fun _ _ _ _ _ r h => by simp [steelyardref02_Up.l0] at h
 | k + 1 => by
  have ih0 := steelyardref02_Up.mono_l k
  ·intro y0 y1 y2 y3 y4
   unfold steelyardref02_Up.l0
   repeat' first | (with_reducible first | exact ih0 _ _ _ _ _ | exact steelyardref01_Trim.mono _ _ | exact LeO.refl _ | exact LeO.none _ | refine LeO.ite ?_ ?_ | refine LeO.bind ?_ (fun _ => ?_)) | exact LeO.none _ | refine LeO.ite ?_ ?_ | refine LeO.bind ?_ (fun _ => ?_)
theorem steelyardref02_Up.mono : ∀ a0 a1 k, LeO (steelyardref02_Up.f k a0 a1) (steelyardref02_Up.f (k + 1) a0 a1) := by
 intro a0 a1 k
 have ih0 := steelyardref02_Up.mono_l k
 unfold steelyardref02_Up.f
 repeat' first | (with_reducible first | exact ih0 _ _ _ _ _ | exact steelyardref01_Trim.mono _ _ | exact LeO.refl _ | exact LeO.none _ | refine LeO.ite ?_ ?_ | refine LeO.bind ?_ (fun _ => ?_)) | exact LeO.none _ | refine LeO.ite ?_ ?_ | refine LeO.bind ?_ (fun _ => ?_)
def steelyardref02_Down.l0 : Nat → List Int → Int → List Int → Int → Option (List Int)
 | 0, _, _, _, _ => none
 | k + 1, x0, x1, x5, x6 => if x6 < (x0.length : Int) then (if 0 ≤ x6 then (if (wrap64 (x6 + 1)) < (x0.length : Int) then (if 0 ≤ (wrap64 (x6 + 1)) then (if 0 ≤ (IntKind.u64.wrap (Int.tmod x1 32)) then (if x5.length < 35184372088832 then (steelyardref02_Down.l0 k x0 x1 (x5 ++ [(shr .u64 (Go.bits .or .u64 (IntKind.u64.wrap (rd x0 x6)) (IntKind.u64.wrap ((IntKind.u64.wrap (rd x0 (wrap64 (x6 + 1)))) * 4294967296))) (IntKind.u64.wrap (Int.tmod x1 32))) % 4294967296]) (wrap64 (x6 + 1))) else (none)) else (none)) else (none)) else (if 0 ≤ (IntKind.u64.wrap (Int.tmod x1 32)) then (if x5.length < 35184372088832 then (steelyardref02_Down.l0 k x0 x1 (x5 ++ [(shr .u64 (IntKind.u64.wrap (rd x0 x6)) (IntKind.u64.wrap (Int.tmod x1 32))) % 4294967296]) (wrap64 (x6 + 1))) else (none)) else (none))) else (none)) else ((steelyardref01_Trim.f k x5).bind fun t190 => (some t190))
def steelyardref02_Down.f (k : Nat) (l0 : List Int) (a1 : Int) : Option (List Int) := steelyardref02_Down.l0 k l0 a1 ([] : List Int) (wrap64 (Int.tdiv a1 32))
theorem steelyardref02_Down.mono_l : ∀ k, (∀ y0 y1 y2 y3, LeO (steelyardref02_Down.l0 k y0 y1 y2 y3) (steelyardref02_Down.l0 (k + 1) y0 y1 y2 y3))
 | 0 => fun _ _ _ _ r h => by simp [steelyardref02_Down.l0] at h
 | k + 1 => by
  have ih0 := steelyardref02_Down.mono_l k
  ·intro y0 y1 y2 y3
   unfold steelyardref02_Down.l0
   repeat' first | (with_reducible first | exact ih0 _ _ _ _ | exact steelyardref01_Trim.mono _ _ | exact LeO.refl _ | exact LeO.none _ | refine LeO.ite ?_ ?_ | refine LeO.bind ?_ (fun _ => ?_)) | exact LeO.none _ | refine LeO.ite ?_ ?_ | refine LeO.bind ?_ (fun _ => ?_)
theorem steelyardref02_Down.mono : ∀ a0 a1 k, LeO (steelyardref02_Down.f k a0 a1) (steelyardref02_Down.f (k + 1) a0 a1) := by
 intro a0 a1 k
 have ih0 := steelyardref02_Down.mono_l k
 unfold steelyardref02_Down.f
 repeat' first | (with_reducible first | exact ih0 _ _ _ _ | exact steelyardref01_Trim.mono _ _ | exact LeO.refl _ | exact LeO.none _ | refine LeO.ite ?_ ?_ | refine LeO.bind ?_ (fun _ => ?_)) | exact LeO.none _ | refine LeO.ite ?_ ?_ | refine LeO.bind ?_ (fun _ => ?_)
def steelyardref02_Small.l0 : Nat → List Int → Int → List Int → Int → Int → Option (List Int)
 | 0, _, _, _, _, _ => none
 | k + 1, x0, x1, x5, x6, x7 => if x7 < (x0.length : Int) then (if 0 ≤ x7 then (if x5.length < 35184372088832 then (steelyardref02_Small.l0 k x0 x1 (x5 ++ [(IntKind.u64.wrap (x6 + (IntKind.u64.wrap ((IntKind.u64.wrap (rd x0 x7)) * (IntKind.u64.wrap (x1)))))) % 4294967296]) ((IntKind.u64.wrap (x6 + (IntKind.u64.wrap ((IntKind.u64.wrap (rd x0 x7)) * (IntKind.u64.wrap (x1)))))) / 4294967296) (wrap64 (x7 + 1))) else (none)) else (none)) else (if x5.length < 35184372088832 then ((steelyardref01_Trim.f k (x5 ++ [(x6) % 4294967296])).bind fun t296 => (some t296)) else (none))
def steelyardref02_Small.f (k : Nat) (l0 : List Int) (a1 : Int) : Option (List Int) := steelyardref02_Small.l0 k l0 a1 ([] : List Int) 0 0
theorem steelyardref02_Small.mono_l : ∀ k, (∀ y0 y1 y2 y3 y4, LeO (steelyardref02_Small.l0 k y0 y1 y2 y3 y4) (steelyardref02_Small.l0 (k + 1) y0 y1 y2 y3 y4))
 | 0 => fun _ _ _ _ _ r h => by simp [steelyardref02_Small.l0] at h
 | k + 1 => by
  have ih0 := steelyardref02_Small.mono_l k
  ·intro y0 y1 y2 y3 y4
   unfold steelyardref02_Small.l0
   repeat' first | (with_reducible first | exact ih0 _ _ _ _ _ | exact steelyardref01_Trim.mono _ _ | exact LeO.refl _ | exact LeO.none _ | refine LeO.ite ?_ ?_ | refine LeO.bind ?_ (fun _ => ?_)) | exact LeO.none _ | refine LeO.ite ?_ ?_ | refine LeO.bind ?_ (fun _ => ?_)
theorem steelyardref02_Small.mono : ∀ a0 a1 k, LeO (steelyardref02_Small.f k a0 a1) (steelyardref02_Small.f (k + 1) a0 a1) := by
 intro a0 a1 k
 have ih0 := steelyardref02_Small.mono_l k
 unfold steelyardref02_Small.f
 repeat' first | (with_reducible first | exact ih0 _ _ _ _ _ | exact steelyardref01_Trim.mono _ _ | exact LeO.refl _ | exact LeO.none _ | refine LeO.ite ?_ ?_ | refine LeO.bind ?_ (fun _ => ?_)) | exact LeO.none _ | refine LeO.ite ?_ ?_ | refine LeO.bind ?_ (fun _ => ?_)
def steelyardref02_Of.l0 : Nat → List Int → List Int → List Int → Int → Option (List Int)
 | 0, _, _, _, _ => none
 | k + 1, x0, x1, x5, x6 => if x6 < (x1.length : Int) then (if 0 ≤ x6 then ((steelyardref02_Small.f k x0 (rd x1 x6)).bind fun t300 => ((steelyardref02_Up.f k t300 (wrap64 (32 * x6))).bind fun t303 => ((steelyardref01_Add.f k x5 t303).bind fun t306 => (steelyardref02_Of.l0 k x0 x1 t306 (wrap64 (x6 + 1)))))) else (none)) else ((steelyardref01_Trim.f k x5).bind fun t309 => (some t309))
def steelyardref02_Of.f (k : Nat) (l0 : List Int) (l1 : List Int) : Option (List Int) := steelyardref02_Of.l0 k l0 l1 ([] : List Int) 0
theorem steelyardref02_Of.mono_l : ∀ k, (∀ y0 y1 y2 y3, LeO (steelyardref02_Of.l0 k y0 y1 y2 y3) (steelyardref02_Of.l0 (k + 1) y0 y1 y2 y3))
 | 0 => fun _ _ _ _ r h => by simp [steelyardref02_Of.l0] at h
 | k + 1 => by
  have ih0 := steelyardref02_Of.mono_l k
  ·intro y0 y1 y2 y3
   unfold steelyardref02_Of.l0
   repeat' first | (with_reducible first | exact ih0 _ _ _ _ | exact steelyardref01_Add.mono _ _ _ | exact steelyardref01_Trim.mono _ _ | exact steelyardref02_Small.mono _ _ _ | exact steelyardref02_Up.mono _ _ _ | exact LeO.refl _ | exact LeO.none _ | refine LeO.ite ?_ ?_ | refine LeO.bind ?_ (fun _ => ?_)) | exact LeO.none _ | refine LeO.ite ?_ ?_ | refine LeO.bind ?_ (fun _ => ?_)
theorem steelyardref02_Of.mono : ∀ a0 a1 k, LeO (steelyardref02_Of.f k a0 a1) (steelyardref02_Of.f (k + 1) a0 a1) := by
 intro a0 a1 k
 have ih0 := steelyardref02_Of.mono_l k
 unfold steelyardref02_Of.f
 repeat' first | (with_reducible first | exact ih0 _ _ _ _ | exact steelyardref01_Add.mono _ _ _ | exact steelyardref01_Trim.mono _ _ | exact steelyardref02_Small.mono _ _ _ | exact steelyardref02_Up.mono _ _ _ | exact LeO.refl _ | exact LeO.none _ | refine LeO.ite ?_ ?_ | refine LeO.bind ?_ (fun _ => ?_)) | exact LeO.none _ | refine LeO.ite ?_ ?_ | refine LeO.bind ?_ (fun _ => ?_)
end Go.Proofs.YtpchdjdochkjpaaGreatDoor.P
set_option linter.unusedVariables false
set_option linter.unusedSimpArgs false
namespace Go.Proofs.YtpchdjdochkjpaaGreatDoor.P
open Go.RowKit Go.Proofs.YtpchdjdochkjpaaGreatDoorW.PrintWords Go.Proofs.YtpchdjdochkjpaaGreatDoorW.PrintLast Go.Proofs.YtpchdjdochkjpaaGreatDoorW.PrintMore
def steelyardref06_Make.f (k : Nat) (a0 : Bool) (l1 : List Int) : Option (Bool × List Int) := (steelyardref01_Trim.f k l1).bind fun t118 => (if a0 = true then (some (decide ((t118.length : Int) > 0), t118)) else (some (false, t118)))
theorem steelyardref06_Make.mono : ∀ a0 a1 k, LeO (steelyardref06_Make.f k a0 a1) (steelyardref06_Make.f (k + 1) a0 a1) := by
 intro a0 a1 k
 unfold steelyardref06_Make.f
 repeat' first | (with_reducible first | exact steelyardref01_Trim.mono _ _ | exact LeO.refl _ | exact LeO.none _ | refine LeO.ite ?_ ?_ | refine LeO.bind ?_ (fun _ => ?_)) | exact LeO.none _ | refine LeO.ite ?_ ?_ | refine LeO.bind ?_ (fun _ => ?_)
def steelyardref06_Of.f (k : Nat) (a0 : Int) : Option (Bool × List Int) := if a0 < 0 then ((steelyardref01_Of.f k (IntKind.u64.wrap ((IntKind.u64.wrap (wrap64 (-(wrap64 (a0 + 1))))) + 1))).bind fun t128 => ((steelyardref06_Make.f k true t128).bind fun bt131 => (some (bt131.1, bt131.2)))) else ((steelyardref01_Of.f k (IntKind.u64.wrap (a0))).bind fun t135 => ((steelyardref06_Make.f k false t135).bind fun bt138 => (some (bt138.1, bt138.2))))
theorem steelyardref06_Of.mono : ∀ a0 k, LeO (steelyardref06_Of.f k a0) (steelyardref06_Of.f (k + 1) a0) := by
 intro a0 k
 unfold steelyardref06_Of.f
 repeat' first | (with_reducible first | exact steelyardref01_Of.mono _ _ | exact steelyardref06_Make.mono _ _ _ | exact LeO.refl _ | exact LeO.none _ | refine LeO.ite ?_ ?_ | refine LeO.bind ?_ (fun _ => ?_)) | exact LeO.none _ | refine LeO.ite ?_ ?_ | refine LeO.bind ?_ (fun _ => ?_)
def steelyardref06_Trim.f (k : Nat) (a0_0 : Bool) (l0_1 : List Int) : Option (Bool × List Int) := (steelyardref06_Make.f k a0_0 l0_1).bind fun bt249 => (some (bt249.1, bt249.2))
theorem steelyardref06_Trim.mono : ∀ a0 a1 k, LeO (steelyardref06_Trim.f k a0 a1) (steelyardref06_Trim.f (k + 1) a0 a1) := by
 intro a0 a1 k
 unfold steelyardref06_Trim.f
 repeat' first | (with_reducible first | exact steelyardref06_Make.mono _ _ _ | exact LeO.refl _ | exact LeO.none _ | refine LeO.ite ?_ ?_ | refine LeO.bind ?_ (fun _ => ?_)) | exact LeO.none _ | refine LeO.ite ?_ ?_ | refine LeO.bind ?_ (fun _ => ?_)
def steelyardref06_Mul.f (k : Nat) (a0_0 : Bool) (l0_1 : List Int) (a1_0 : Bool) (l1_1 : List Int) : Option (Bool × List Int) := (steelyardref06_Trim.f k a0_0 l0_1).bind fun bt315 => ((steelyardref06_Trim.f k a1_0 l1_1).bind fun bt319 => ((steelyardref02_Of.f k l0_1 l1_1).bind fun t323 => ((steelyardref06_Make.f k (bt315.1 != bt319.1) t323).bind fun bt326 => (some (bt326.1, bt326.2)))))
theorem steelyardref06_Mul.mono : ∀ a0 a1 a2 a3 k, LeO (steelyardref06_Mul.f k a0 a1 a2 a3) (steelyardref06_Mul.f (k + 1) a0 a1 a2 a3) := by
 intro a0 a1 a2 a3 k
 unfold steelyardref06_Mul.f
 repeat' first | (with_reducible first | exact steelyardref02_Of.mono _ _ _ | exact steelyardref06_Make.mono _ _ _ | exact steelyardref06_Trim.mono _ _ _ | exact LeO.refl _ | exact LeO.none _ | refine LeO.ite ?_ ?_ | refine LeO.bind ?_ (fun _ => ?_)) | exact LeO.none _ | refine LeO.ite ?_ ?_ | refine LeO.bind ?_ (fun _ => ?_)
mutual
def steelyardref06_Cmp.j0 : Nat → Bool → Bool → List Int → Bool → List Int → Option (Int)
 | 0, _, _, _, _, _ => none
 | k + 1, x11, x1426000, x1426001, x1427000, x1427001 => if x11 = true then (some (-1)) else (if x1426000 = true then (steelyardref06_Cmp.j1 k false x1426000 x1426001 x1427000 x1427001) else (steelyardref06_Cmp.j1 k x1427000 x1426000 x1426001 x1427000 x1427001))
def steelyardref06_Cmp.j1 : Nat → Bool → Bool → List Int → Bool → List Int → Option (Int)
 | 0, _, _, _, _, _ => none
 | k + 1, x19, x1426000, x1426001, x1427000, x1427001 => if x19 = true then (some 1) else (if x1426000 = true then ((steelyardref01_Cmp.f k x1427001 x1426001).bind fun t1427 => (some t1427)) else ((steelyardref01_Cmp.f k x1426001 x1427001).bind fun t1428 => (some t1428)))
end
def steelyardref06_Cmp.f (k : Nat) (a0_0 : Bool) (l0_1 : List Int) (a1_0 : Bool) (l1_1 : List Int) : Option (Int) := (steelyardref06_Trim.f k a0_0 l0_1).bind fun bt1417 => ((steelyardref06_Trim.f k a1_0 l1_1).bind fun bt1421 => (if bt1417.1 = true then (steelyardref06_Cmp.j0 k (!bt1421.1) bt1417.1 bt1417.2 bt1421.1 bt1421.2) else (steelyardref06_Cmp.j0 k false bt1417.1 bt1417.2 bt1421.1 bt1421.2)))
theorem steelyardref06_Cmp.mono_l : ∀ k, (∀ y0 y1 y2 y3 y4, LeO (steelyardref06_Cmp.j0 k y0 y1 y2 y3 y4) (steelyardref06_Cmp.j0 (k + 1) y0 y1 y2 y3 y4)) ∧ (∀ y0 y1 y2 y3 y4, LeO (steelyardref06_Cmp.j1 k y0 y1 y2 y3 y4) (steelyardref06_Cmp.j1 (k + 1) y0 y1 y2 y3 y4))
 | 0 => ⟨fun _ _ _ _ _ r h => by simp [steelyardref06_Cmp.j0] at h, fun _ _ _ _ _ r h => by simp [steelyardref06_Cmp.j1] at h⟩
 | k + 1 => by
  obtain ⟨ih0, ih1⟩ := steelyardref06_Cmp.mono_l k
  refine ⟨?_, ?_⟩
  ·intro y0 y1 y2 y3 y4
   unfold steelyardref06_Cmp.j0
   repeat' first | (with_reducible first | exact ih0 _ _ _ _ _ | exact ih1 _ _ _ _ _ | exact steelyardref01_Cmp.mono _ _ _ | exact steelyardref06_Trim.mono _ _ _ | exact LeO.refl _ | exact LeO.none _ | refine LeO.ite ?_ ?_ | refine LeO.bind ?_ (fun _ => ?_)) | exact LeO.none _ | refine LeO.ite ?_ ?_ | refine LeO.bind ?_ (fun _ => ?_)
  ·intro y0 y1 y2 y3 y4
   unfold steelyardref06_Cmp.j1
   repeat' first | (with_reducible first | exact ih0 _ _ _ _ _ | exact ih1 _ _ _ _ _ | exact steelyardref01_Cmp.mono _ _ _ | exact steelyardref06_Trim.mono _ _ _ | exact LeO.refl _ | exact LeO.none _ | refine LeO.ite ?_ ?_ | refine LeO.bind ?_ (fun _ => ?_)) | exact LeO.none _ | refine LeO.ite ?_ ?_ | refine LeO.bind ?_ (fun _ => ?_)
theorem steelyardref06_Cmp.mono : ∀ a0 a1 a2 a3 k, LeO (steelyardref06_Cmp.f k a0 a1 a2 a3) (steelyardref06_Cmp.f (k + 1) a0 a1 a2 a3) := by
 intro a0 a1 a2 a3 k
 obtain ⟨ih0, ih1⟩ := steelyardref06_Cmp.mono_l k
 unfold steelyardref06_Cmp.f
 repeat' first | (with_reducible first | exact ih0 _ _ _ _ _ | exact ih1 _ _ _ _ _ | exact steelyardref01_Cmp.mono _ _ _ | exact steelyardref06_Trim.mono _ _ _ | exact LeO.refl _ | exact LeO.none _ | refine LeO.ite ?_ ?_ | refine LeO.bind ?_ (fun _ => ?_)) | exact LeO.none _ | refine LeO.ite ?_ ?_ | refine LeO.bind ?_ (fun _ => ?_)
end Go.Proofs.YtpchdjdochkjpaaGreatDoor.P
set_option linter.unusedVariables false
set_option linter.unusedSimpArgs false
namespace Go.Proofs.YtpchdjdochkjpaaGreatDoor.P
open Go.RowKit Go.Proofs.YtpchdjdochkjpaaGreatDoorW.PrintWords Go.Proofs.YtpchdjdochkjpaaGreatDoorW.PrintLast Go.Proofs.YtpchdjdochkjpaaGreatDoorW.PrintMore
def steelyardref03_Rem.l0 : Nat → List Int → List Int → List Int → Int → Option (List Int × List Int × Bool)
 | 0, _, _, _, _ => none
 | k + 1, x5, x7, x8, x9 => if x9 ≥ 0 then ((steelyardref01_Cmp.f k x5 x8).bind fun t209 => (if t209 ≥ 0 then ((steelyardref01_Sub.f k x5 x8).bind fun t210 => (if 0 ≤ (wrap64 (Int.tdiv x9 32)) then (if (wrap64 (Int.tdiv x9 32)) < (x7.length : Int) then (if 0 ≤ (IntKind.u64.wrap (Int.tmod x9 32)) then ((steelyardref02_Down.f k x8 1).bind fun t215 => (steelyardref03_Rem.l0 k t210 (x7.set ((wrap64 (Int.tdiv x9 32)) : Int).toNat (Go.bits .or .u32 (rd x7 (wrap64 (Int.tdiv x9 32))) (shl .u32 1 (IntKind.u64.wrap (Int.tmod x9 32))))) t215 (wrap64 (x9 - 1)))) else (none)) else (none)) else (none))) else ((steelyardref02_Down.f k x8 1).bind fun t218 => (steelyardref03_Rem.l0 k x5 x7 t218 (wrap64 (x9 - 1)))))) else ((steelyardref01_Trim.f k x7).bind fun t206 => (some (t206, x5, true)))
def steelyardref03_Rem.f (k : Nat) (l0 : List Int) (l1 : List Int) : Option (List Int × List Int × Bool) := (steelyardref01_Bits.f k l1).bind fun t194 => (if t194 = 0 then (some (([] : List Int), ([] : List Int), false)) else ((steelyardref01_Trim.f k l0).bind fun t195 => ((steelyardref01_Bits.f k l0).bind fun t198 => ((steelyardref01_Bits.f k l1).bind fun t199 => (if 0 ≤ (wrap64 ((wrap64 (Int.tdiv (mx 0 (wrap64 (t198 - t199))) 32)) + 1)) then (if (wrap64 ((wrap64 (Int.tdiv (mx 0 (wrap64 (t198 - t199))) 32)) + 1) : Int).toNat ≤ 70368744177664 then ((steelyardref02_Up.f k l1 (mx 0 (wrap64 (t198 - t199)))).bind fun t203 => (steelyardref03_Rem.l0 k t195 (List.replicate (wrap64 ((wrap64 (Int.tdiv (mx 0 (wrap64 (t198 - t199))) 32)) + 1) : Int).toNat 0) t203 (mx 0 (wrap64 (t198 - t199))))) else (none)) else (none))))))
theorem steelyardref03_Rem.mono_l : ∀ k, (∀ y0 y1 y2 y3, LeO (steelyardref03_Rem.l0 k y0 y1 y2 y3) (steelyardref03_Rem.l0 (k + 1) y0 y1 y2 y3))
 | 0 => fun _ _ _ _ r h => by simp [steelyardref03_Rem.l0] at h
 | k + 1 => by
  have ih0 := steelyardref03_Rem.mono_l k
  ·intro y0 y1 y2 y3
   unfold steelyardref03_Rem.l0
   repeat' first | (with_reducible first | exact ih0 _ _ _ _ | exact steelyardref01_Bits.mono _ _ | exact steelyardref01_Cmp.mono _ _ _ | exact steelyardref01_Sub.mono _ _ _ | exact steelyardref01_Trim.mono _ _ | exact steelyardref02_Down.mono _ _ _ | exact steelyardref02_Up.mono _ _ _ | exact LeO.refl _ | exact LeO.none _ | refine LeO.ite ?_ ?_ | refine LeO.bind ?_ (fun _ => ?_)) | exact LeO.none _ | refine LeO.ite ?_ ?_ | refine LeO.bind ?_ (fun _ => ?_)
theorem steelyardref03_Rem.mono : ∀ a0 a1 k, LeO (steelyardref03_Rem.f k a0 a1) (steelyardref03_Rem.f (k + 1) a0 a1) := by
 intro a0 a1 k
 have ih0 := steelyardref03_Rem.mono_l k
 unfold steelyardref03_Rem.f
 repeat' first | (with_reducible first | exact ih0 _ _ _ _ | exact steelyardref01_Bits.mono _ _ | exact steelyardref01_Cmp.mono _ _ _ | exact steelyardref01_Sub.mono _ _ _ | exact steelyardref01_Trim.mono _ _ | exact steelyardref02_Down.mono _ _ _ | exact steelyardref02_Up.mono _ _ _ | exact LeO.refl _ | exact LeO.none _ | refine LeO.ite ?_ ?_ | refine LeO.bind ?_ (fun _ => ?_)) | exact LeO.none _ | refine LeO.ite ?_ ?_ | refine LeO.bind ?_ (fun _ => ?_)
def steelyardref03_Gcd.l0 : Nat → List Int → List Int → Option (List Int)
 | 0, _, _ => none
 | k + 1, x5, x6 => if (x6.length : Int) > 0 then ((steelyardref03_Rem.f k x5 x6).bind fun bt227 => (steelyardref03_Gcd.l0 k x6 bt227.2.1)) else (some x5)
def steelyardref03_Gcd.f (k : Nat) (l0 : List Int) (l1 : List Int) : Option (List Int) := (steelyardref01_Trim.f k l0).bind fun t221 => ((steelyardref01_Trim.f k l1).bind fun t224 => (steelyardref03_Gcd.l0 k t221 t224))
theorem steelyardref03_Gcd.mono_l : ∀ k, (∀ y0 y1, LeO (steelyardref03_Gcd.l0 k y0 y1) (steelyardref03_Gcd.l0 (k + 1) y0 y1))
 | 0 => fun _ _ r h => by simp [steelyardref03_Gcd.l0] at h
 | k + 1 => by
  have ih0 := steelyardref03_Gcd.mono_l k
  ·intro y0 y1
   unfold steelyardref03_Gcd.l0
   repeat' first | (with_reducible first | exact ih0 _ _ | exact steelyardref01_Trim.mono _ _ | exact steelyardref03_Rem.mono _ _ _ | exact LeO.refl _ | exact LeO.none _ | refine LeO.ite ?_ ?_ | refine LeO.bind ?_ (fun _ => ?_)) | exact LeO.none _ | refine LeO.ite ?_ ?_ | refine LeO.bind ?_ (fun _ => ?_)
theorem steelyardref03_Gcd.mono : ∀ a0 a1 k, LeO (steelyardref03_Gcd.f k a0 a1) (steelyardref03_Gcd.f (k + 1) a0 a1) := by
 intro a0 a1 k
 have ih0 := steelyardref03_Gcd.mono_l k
 unfold steelyardref03_Gcd.f
 repeat' first | (with_reducible first | exact ih0 _ _ | exact steelyardref01_Trim.mono _ _ | exact steelyardref03_Rem.mono _ _ _ | exact LeO.refl _ | exact LeO.none _ | refine LeO.ite ?_ ?_ | refine LeO.bind ?_ (fun _ => ?_)) | exact LeO.none _ | refine LeO.ite ?_ ?_ | refine LeO.bind ?_ (fun _ => ?_)
end Go.Proofs.YtpchdjdochkjpaaGreatDoor.P
set_option linter.unusedVariables false
set_option linter.unusedSimpArgs false
namespace Go.Proofs.YtpchdjdochkjpaaGreatDoor.P
open Go.RowKit Go.Proofs.YtpchdjdochkjpaaGreatDoorW.PrintWords Go.Proofs.YtpchdjdochkjpaaGreatDoorW.PrintLast Go.Proofs.YtpchdjdochkjpaaGreatDoorW.PrintMore
def steelyardref07_Whole.f (k : Nat) (a0 : Int) : Option (Bool × List Int × List Int) := (steelyardref06_Of.f k a0).bind fun bt143 => (some (bt143.1, bt143.2, (([1] : List Int))))
theorem steelyardref07_Whole.mono : ∀ a0 k, LeO (steelyardref07_Whole.f k a0) (steelyardref07_Whole.f (k + 1) a0) := by
 intro a0 k
 unfold steelyardref07_Whole.f
 repeat' first | (with_reducible first | exact steelyardref06_Of.mono _ _ | exact LeO.refl _ | exact LeO.none _ | refine LeO.ite ?_ ?_ | refine LeO.bind ?_ (fun _ => ?_)) | exact LeO.none _ | refine LeO.ite ?_ ?_ | refine LeO.bind ?_ (fun _ => ?_)
def steelyardref07_trimmed.f (l0 : List Int) : Option (Bool) := if (l0.length : Int) = 0 then (some true) else (if 0 ≤ (wrap64 ((l0.length : Int) - 1)) then (if (wrap64 ((l0.length : Int) - 1)) < (l0.length : Int) then (some ((rd l0 (wrap64 ((l0.length : Int) - 1))) != 0)) else (none)) else (none))
def steelyardref07_Good.f (k : Nat) (a0_0 : Bool) (l0_1 : List Int) (l0_2 : List Int) : Option (Bool) := (steelyardref07_trimmed.f l0_1).bind fun t235 => (if t235 = true then ((steelyardref07_trimmed.f l0_2).bind fun t236 => (if t236 = true then (if (l0_2.length : Int) = 0 then (some false) else (if a0_0 = true then (if (l0_1.length : Int) = 0 then (some false) else (if (l0_1.length : Int) > 64 then (some false) else (if (l0_2.length : Int) > 64 then (some false) else ((steelyardref03_Gcd.f k l0_1 l0_2).bind fun t237 => (if (t237.length : Int) = 1 then (if 0 < (t237.length : Int) then (some ((rd t237 0) == 1)) else (none)) else (some false)))))) else (if (l0_1.length : Int) > 64 then (some false) else (if (l0_2.length : Int) > 64 then (some false) else ((steelyardref03_Gcd.f k l0_1 l0_2).bind fun t241 => (if (t241.length : Int) = 1 then (if 0 < (t241.length : Int) then (some ((rd t241 0) == 1)) else (none)) else (some false))))))) else (some false))) else (some false))
theorem steelyardref07_Good.mono : ∀ a0 a1 a2 k, LeO (steelyardref07_Good.f k a0 a1 a2) (steelyardref07_Good.f (k + 1) a0 a1 a2) := by
 intro a0 a1 a2 k
 unfold steelyardref07_Good.f
 repeat' first | (with_reducible first | exact steelyardref03_Gcd.mono _ _ _ | exact LeO.refl _ | exact LeO.none _ | refine LeO.ite ?_ ?_ | refine LeO.bind ?_ (fun _ => ?_)) | exact LeO.none _ | refine LeO.ite ?_ ?_ | refine LeO.bind ?_ (fun _ => ?_)
def steelyardref07_Limit.f (a0_0 : Bool) (l0_1 : List Int) (l0_2 : List Int) : Option (Bool × List Int × List Int × Int) := if (l0_1.length : Int) > 64 then (some (false, ([] : List Int), ([] : List Int), 2)) else (if (l0_2.length : Int) > 64 then (some (false, ([] : List Int), ([] : List Int), 2)) else (some (a0_0, l0_1, l0_2, 0)))
def steelyardref07_Wide.f (k : Nat) (a0_0 : Bool) (l0_1 : List Int) (l1 : List Int) : Option (Bool × List Int × List Int) := (steelyardref06_Trim.f k a0_0 l0_1).bind fun bt255 => ((steelyardref03_Gcd.f k bt255.2 l1).bind fun t260 => ((steelyardref03_Rem.f k bt255.2 t260).bind fun bt263 => ((steelyardref06_Make.f k bt255.1 bt263.1).bind fun bt270 => ((steelyardref03_Rem.f k l1 t260).bind fun bt274 => (some (bt270.1, bt270.2, bt274.1))))))
theorem steelyardref07_Wide.mono : ∀ a0 a1 a2 k, LeO (steelyardref07_Wide.f k a0 a1 a2) (steelyardref07_Wide.f (k + 1) a0 a1 a2) := by
 intro a0 a1 a2 k
 unfold steelyardref07_Wide.f
 repeat' first | (with_reducible first | exact steelyardref03_Gcd.mono _ _ _ | exact steelyardref03_Rem.mono _ _ _ | exact steelyardref06_Make.mono _ _ _ | exact steelyardref06_Trim.mono _ _ _ | exact LeO.refl _ | exact LeO.none _ | refine LeO.ite ?_ ?_ | refine LeO.bind ?_ (fun _ => ?_)) | exact LeO.none _ | refine LeO.ite ?_ ?_ | refine LeO.bind ?_ (fun _ => ?_)
def steelyardref07_Times.f (k : Nat) (a0_0 : Bool) (l0_1 : List Int) (l0_2 : List Int) (a1_0 : Bool) (l1_1 : List Int) (l1_2 : List Int) : Option (Bool × List Int × List Int) := (steelyardref06_Mul.f k a0_0 l0_1 a1_0 l1_1).bind fun bt333 => ((steelyardref02_Of.f k l0_2 l1_2).bind fun t337 => ((steelyardref07_Wide.f k bt333.1 bt333.2 t337).bind fun bt340 => (some (bt340.1, bt340.2.1, bt340.2.2))))
theorem steelyardref07_Times.mono : ∀ a0 a1 a2 a3 a4 a5 k, LeO (steelyardref07_Times.f k a0 a1 a2 a3 a4 a5) (steelyardref07_Times.f (k + 1) a0 a1 a2 a3 a4 a5) := by
 intro a0 a1 a2 a3 a4 a5 k
 unfold steelyardref07_Times.f
 repeat' first | (with_reducible first | exact steelyardref02_Of.mono _ _ _ | exact steelyardref06_Mul.mono _ _ _ _ _ | exact steelyardref07_Wide.mono _ _ _ _ | exact LeO.refl _ | exact LeO.none _ | refine LeO.ite ?_ ?_ | refine LeO.bind ?_ (fun _ => ?_)) | exact LeO.none _ | refine LeO.ite ?_ ?_ | refine LeO.bind ?_ (fun _ => ?_)
def steelyardref07_Div.j0 : Nat → Bool → Bool → List Int → List Int → Bool → List Int → List Int → Option (Bool × List Int × List Int × Int)
 | 0, _, _, _, _, _, _, _ => none
 | k + 1, x12, x348000, x348001, x348002, x349000, x349001, x349002 => if x12 = true then (some (false, ([] : List Int), ([] : List Int), 1)) else (if (x349001.length : Int) = 0 then (some (false, ([] : List Int), ([] : List Int), 3)) else ((steelyardref06_Make.f k x349000 x349002).bind fun bt352 => ((steelyardref07_Times.f k x348000 x348001 x348002 bt352.1 bt352.2 x349001).bind fun bt356 => ((steelyardref07_Limit.f bt356.1 bt356.2.1 bt356.2.2).bind fun bt363 => (some (bt363.1, bt363.2.1, bt363.2.2.1, bt363.2.2.2))))))
def steelyardref07_Div.f (k : Nat) (a0_0 : Bool) (l0_1 : List Int) (l0_2 : List Int) (a1_0 : Bool) (l1_1 : List Int) (l1_2 : List Int) : Option (Bool × List Int × List Int × Int) := (steelyardref07_Good.f k a0_0 l0_1 l0_2).bind fun t350 => (if t350 = true then ((steelyardref07_Good.f k a1_0 l1_1 l1_2).bind fun t351 => (steelyardref07_Div.j0 k (!t351) a0_0 l0_1 l0_2 a1_0 l1_1 l1_2)) else (steelyardref07_Div.j0 k true a0_0 l0_1 l0_2 a1_0 l1_1 l1_2))
theorem steelyardref07_Div.mono_l : ∀ k, (∀ y0 y1 y2 y3 y4 y5 y6, LeO (steelyardref07_Div.j0 k y0 y1 y2 y3 y4 y5 y6) (steelyardref07_Div.j0 (k + 1) y0 y1 y2 y3 y4 y5 y6))
 | 0 => fun _ _ _ _ _ _ _ r h => by simp [steelyardref07_Div.j0] at h
 | k + 1 => by
  have ih0 := steelyardref07_Div.mono_l k
  ·intro y0 y1 y2 y3 y4 y5 y6
   unfold steelyardref07_Div.j0
   repeat' first | (with_reducible first | exact ih0 _ _ _ _ _ _ _ | exact steelyardref06_Make.mono _ _ _ | exact steelyardref07_Good.mono _ _ _ _ | exact steelyardref07_Times.mono _ _ _ _ _ _ _ | exact LeO.refl _ | exact LeO.none _ | refine LeO.ite ?_ ?_ | refine LeO.bind ?_ (fun _ => ?_)) | exact LeO.none _ | refine LeO.ite ?_ ?_ | refine LeO.bind ?_ (fun _ => ?_)
theorem steelyardref07_Div.mono : ∀ a0 a1 a2 a3 a4 a5 k, LeO (steelyardref07_Div.f k a0 a1 a2 a3 a4 a5) (steelyardref07_Div.f (k + 1) a0 a1 a2 a3 a4 a5) := by
 intro a0 a1 a2 a3 a4 a5 k
 have ih0 := steelyardref07_Div.mono_l k
 unfold steelyardref07_Div.f
 repeat' first | (with_reducible first | exact ih0 _ _ _ _ _ _ _ | exact steelyardref06_Make.mono _ _ _ | exact steelyardref07_Good.mono _ _ _ _ | exact steelyardref07_Times.mono _ _ _ _ _ _ _ | exact LeO.refl _ | exact LeO.none _ | refine LeO.ite ?_ ?_ | refine LeO.bind ?_ (fun _ => ?_)) | exact LeO.none _ | refine LeO.ite ?_ ?_ | refine LeO.bind ?_ (fun _ => ?_)
def steelyardref07_pos.f (k : Nat) (l0 : List Int) : Option (Bool × List Int) := (steelyardref06_Make.f k false l0).bind fun bt1430 => (some (bt1430.1, bt1430.2))
theorem steelyardref07_pos.mono : ∀ a0 k, LeO (steelyardref07_pos.f k a0) (steelyardref07_pos.f (k + 1) a0) := by
 intro a0 k
 unfold steelyardref07_pos.f
 repeat' first | (with_reducible first | exact steelyardref06_Make.mono _ _ _ | exact LeO.refl _ | exact LeO.none _ | refine LeO.ite ?_ ?_ | refine LeO.bind ?_ (fun _ => ?_)) | exact LeO.none _ | refine LeO.ite ?_ ?_ | refine LeO.bind ?_ (fun _ => ?_)
def steelyardref07_Less.f (k : Nat) (a0_0 : Bool) (l0_1 : List Int) (l0_2 : List Int) (a1_0 : Bool) (l1_1 : List Int) (l1_2 : List Int) : Option (Int) := (steelyardref07_pos.f k l1_2).bind fun bt1436 => ((steelyardref06_Mul.f k a0_0 l0_1 bt1436.1 bt1436.2).bind fun bt1440 => ((steelyardref07_pos.f k l0_2).bind fun bt1444 => ((steelyardref06_Mul.f k a1_0 l1_1 bt1444.1 bt1444.2).bind fun bt1448 => ((steelyardref06_Cmp.f k bt1440.1 bt1440.2 bt1448.1 bt1448.2).bind fun t1452 => (some t1452)))))
theorem steelyardref07_Less.mono : ∀ a0 a1 a2 a3 a4 a5 k, LeO (steelyardref07_Less.f k a0 a1 a2 a3 a4 a5) (steelyardref07_Less.f (k + 1) a0 a1 a2 a3 a4 a5) := by
 intro a0 a1 a2 a3 a4 a5 k
 unfold steelyardref07_Less.f
 repeat' first | (with_reducible first | exact steelyardref06_Cmp.mono _ _ _ _ _ | exact steelyardref06_Mul.mono _ _ _ _ _ | exact steelyardref07_pos.mono _ _ | exact LeO.refl _ | exact LeO.none _ | refine LeO.ite ?_ ?_ | refine LeO.bind ?_ (fun _ => ?_)) | exact LeO.none _ | refine LeO.ite ?_ ?_ | refine LeO.bind ?_ (fun _ => ?_)
def steelyardref07_Cmp.f (k : Nat) (a0_0 : Bool) (l0_1 : List Int) (l0_2 : List Int) (a1_0 : Bool) (l1_1 : List Int) (l1_2 : List Int) : Option (Int) := (steelyardref07_Good.f k a0_0 l0_1 l0_2).bind fun t1455 => (if t1455 = true then ((steelyardref07_Good.f k a1_0 l1_1 l1_2).bind fun t1456 => (if t1456 = true then ((steelyardref07_Less.f k a0_0 l0_1 l0_2 a1_0 l1_1 l1_2).bind fun t1457 => (some t1457)) else (some 0))) else (some 0))
theorem steelyardref07_Cmp.mono : ∀ a0 a1 a2 a3 a4 a5 k, LeO (steelyardref07_Cmp.f k a0 a1 a2 a3 a4 a5) (steelyardref07_Cmp.f (k + 1) a0 a1 a2 a3 a4 a5) := by
 intro a0 a1 a2 a3 a4 a5 k
 unfold steelyardref07_Cmp.f
 repeat' first | (with_reducible first | exact steelyardref07_Good.mono _ _ _ _ | exact steelyardref07_Less.mono _ _ _ _ _ _ _ | exact LeO.refl _ | exact LeO.none _ | refine LeO.ite ?_ ?_ | refine LeO.bind ?_ (fun _ => ?_)) | exact LeO.none _ | refine LeO.ite ?_ ?_ | refine LeO.bind ?_ (fun _ => ?_)
def steelyardref07_Sign.f (k : Nat) (a0_0 : Bool) (l0_1 : List Int) (l0_2 : List Int) : Option (Int) := (steelyardref07_Whole.f k 0).bind fun bt1459 => ((steelyardref07_Cmp.f k a0_0 l0_1 l0_2 bt1459.1 bt1459.2.1 bt1459.2.2).bind fun t1466 => (some t1466))
theorem steelyardref07_Sign.mono : ∀ a0 a1 a2 k, LeO (steelyardref07_Sign.f k a0 a1 a2) (steelyardref07_Sign.f (k + 1) a0 a1 a2) := by
 intro a0 a1 a2 k
 unfold steelyardref07_Sign.f
 repeat' first | (with_reducible first | exact steelyardref07_Cmp.mono _ _ _ _ _ _ _ | exact steelyardref07_Whole.mono _ _ | exact LeO.refl _ | exact LeO.none _ | refine LeO.ite ?_ ?_ | refine LeO.bind ?_ (fun _ => ?_)) | exact LeO.none _ | refine LeO.ite ?_ ?_ | refine LeO.bind ?_ (fun _ => ?_)
end Go.Proofs.YtpchdjdochkjpaaGreatDoor.P
set_option linter.unusedVariables false
set_option linter.unusedSimpArgs false
namespace Go.Proofs.YtpchdjdochkjpaaGreatDoor.P
open Go.RowKit Go.Proofs.YtpchdjdochkjpaaGreatDoorW.PrintWords Go.Proofs.YtpchdjdochkjpaaGreatDoorW.PrintLast Go.Proofs.YtpchdjdochkjpaaGreatDoorW.PrintMore
def steelyardlaw07_By.f (k : Nat) (a0 : Int) (a1 : Int) : Option (Bool × List Int × List Int) := (steelyardref07_Whole.f k a0).bind fun bt1369 => ((steelyardref07_Whole.f k a1).bind fun bt1376 => ((steelyardref07_Div.f k bt1369.1 bt1369.2.1 bt1369.2.2 bt1376.1 bt1376.2.1 bt1376.2.2).bind fun bt1383 => (some (bt1383.1, bt1383.2.1, bt1383.2.2.1))))
theorem steelyardlaw07_By.mono : ∀ a0 a1 k, LeO (steelyardlaw07_By.f k a0 a1) (steelyardlaw07_By.f (k + 1) a0 a1) := by
 intro a0 a1 k
 unfold steelyardlaw07_By.f
 repeat' first | (with_reducible first | exact steelyardref07_Div.mono _ _ _ _ _ _ _ | exact steelyardref07_Whole.mono _ _ | exact LeO.refl _ | exact LeO.none _ | refine LeO.ite ?_ ?_ | refine LeO.bind ?_ (fun _ => ?_)) | exact LeO.none _ | refine LeO.ite ?_ ?_ | refine LeO.bind ?_ (fun _ => ?_)
def steelyardlaw07_Long.f (a0_0 : Bool) (l0_1 : List Int) (l0_2 : List Int) : Option (Bool) := if (l0_1.length : Int) > 70 then (some true) else (some (decide ((l0_2.length : Int) > 70)))
end Go.Proofs.YtpchdjdochkjpaaGreatDoor.P
set_option linter.unusedVariables false
set_option linter.unusedSimpArgs false
namespace Go.Proofs.YtpchdjdochkjpaaGreatDoor.P
open Go.RowKit Go.Proofs.YtpchdjdochkjpaaGreatDoorW.PrintWords Go.Proofs.YtpchdjdochkjpaaGreatDoorW.PrintLast Go.Proofs.YtpchdjdochkjpaaGreatDoorW.PrintMore
def unit_number.f (k : Nat) (a0 : Int) : Option (Bool × List Int × List Int) := if a0 > 0 then ((rat_Whole.f k a0).bind fun bt1035 => (some (bt1035.1, bt1035.2.1, bt1035.2.2))) else ((rat_Whole.f k 1).bind fun bt1042 => ((rat_Whole.f k (wrap64 (-a0))).bind fun bt1049 => ((rat_Div.f k bt1042.1 bt1042.2.1 bt1042.2.2 bt1049.1 bt1049.2.1 bt1049.2.2).bind fun bt1056 => (some (bt1056.1, bt1056.2.1, bt1056.2.2.1)))))
theorem unit_number.mono : ∀ a0 k, LeO (unit_number.f k a0) (unit_number.f (k + 1) a0) := by
 intro a0 k
 unfold unit_number.f
 repeat' first | (with_reducible first | exact rat_Div.mono _ _ _ _ _ _ _ | exact rat_Whole.mono _ _ | exact LeO.refl _ | exact LeO.none _ | refine LeO.ite ?_ ?_ | refine LeO.bind ?_ (fun _ => ?_)) | exact LeO.none _ | refine LeO.ite ?_ ?_ | refine LeO.bind ?_ (fun _ => ?_)
def unit_copied.f (k : Nat) (a0_0 : Bool) (l0_1 : List Int) (l0_2 : List Int) (a0_3 : Int) (a0_4 : Int) (a0_5 : Int) (a0_6 : Int) (a0_7 : Int) (a0_8 : Int) (a0_9 : Int) : Option (Bool × List Int × List Int × Int × Int × Int × Int × Int × Int × Int) := (rat_Neg.f k a0_0 l0_1 l0_2).bind fun bt1084 => ((rat_Neg.f k bt1084.1 bt1084.2.1 bt1084.2.2).bind fun bt1091 => (some (bt1091.1, bt1091.2.1, bt1091.2.2, a0_3, a0_4, a0_5, a0_6, a0_7, a0_8, a0_9)))
theorem unit_copied.mono : ∀ a0 a1 a2 a3 a4 a5 a6 a7 a8 a9 k, LeO (unit_copied.f k a0 a1 a2 a3 a4 a5 a6 a7 a8 a9) (unit_copied.f (k + 1) a0 a1 a2 a3 a4 a5 a6 a7 a8 a9) := by
 intro a0 a1 a2 a3 a4 a5 a6 a7 a8 a9 k
 unfold unit_copied.f
 repeat' first | (with_reducible first | exact rat_Neg.mono _ _ _ _ | exact LeO.refl _ | exact LeO.none _ | refine LeO.ite ?_ ?_ | refine LeO.bind ?_ (fun _ => ?_)) | exact LeO.none _ | refine LeO.ite ?_ ?_ | refine LeO.bind ?_ (fun _ => ?_)
def unit_may.f (k : Nat) (u : Un) : Option Bool := (rat_Sign.f k u.g u.m u.b).bind fun t => (if t > 0 then ((dim_Good.f u.d).bind fun q => (some q)) else (some false))
theorem unit_may.mono : ∀ y0 k, LeO (unit_may.f k y0) (unit_may.f (k + 1) y0) := by
 intro y0 k
 unfold unit_may.f
 repeat' first | (with_reducible first | exact rat_Sign.mono _ _ _ _ | exact LeO.refl _ | exact LeO.none _ | refine LeO.ite ?_ ?_ | refine LeO.bind ?_ (fun _ => ?_) | refine LeO.lkp (fun _ => ?_) ?_ | refine LeO.mput (fun _ => ?_)) | refine LeO.ite ?_ ?_ | refine LeO.bind ?_ (fun _ => ?_)
def unit_letter.f (a0 : Int) : Option (Bool) := if a0 ≥ 97 then (if a0 ≤ 122 then (some true) else (if a0 ≥ 65 then (some (decide (a0 ≤ 90))) else (some false))) else (if a0 ≥ 65 then (some (decide (a0 ≤ 90))) else (some false))
def unit_digit.f (a0 : Int) : Option (Bool) := if a0 ≥ 48 then (some (decide (a0 ≤ 57))) else (some false)
mutual
def unit_name.j0 : Nat → ByteArray → Bool → Option (Int)
 | 0, _, _ => none
 | k + 1, x0, x11 => if x11 = true then (some 0) else (unit_name.l0 k x0 1)
def unit_name.l0 : Nat → ByteArray → Int → Option (Int)
 | 0, _, _ => none
 | k + 1, x0, x3 => if x3 < (mn (x0.size : Int) 16) then (if 0 ≤ x3 then (if x3 < (x0.size : Int) then ((unit_letter.f (bt x0 x3)).bind fun t1117 => (if t1117 = true then (unit_name.l0 k x0 (wrap64 (x3 + 1))) else ((unit_digit.f (bt x0 x3)).bind fun t1118 => (if t1118 = true then (unit_name.l0 k x0 (wrap64 (x3 + 1))) else (if (bt x0 x3) = 95 then (unit_name.l0 k x0 (wrap64 (x3 + 1))) else (some x3)))))) else (none)) else (none)) else (some x3)
end
def unit_name.f (k : Nat) (a0 : ByteArray) : Option (Int) := if a0.toList = ([] : List UInt8) then (unit_name.j0 k a0 true) else (if 0 < (a0.size : Int) then ((unit_letter.f (bt a0 0)).bind fun t1116 => (unit_name.j0 k a0 (!t1116))) else (none))
theorem unit_name.mono_l : ∀ k, (∀ y0 y1, LeO (unit_name.j0 k y0 y1) (unit_name.j0 (k + 1) y0 y1)) ∧ (∀ y0 y1, LeO (unit_name.l0 k y0 y1) (unit_name.l0 (k + 1) y0 y1))
 | 0 => ⟨fun _ _ r h => by simp [unit_name.j0] at h, fun _ _ r h => by simp [unit_name.l0] at h⟩
 | k + 1 => by
  obtain ⟨ih0, ih1⟩ := unit_name.mono_l k
  refine ⟨?_, ?_⟩
  ·intro y0 y1
   unfold unit_name.j0
   repeat' first | (with_reducible first | exact ih0 _ _ | exact ih1 _ _ | exact LeO.refl _ | exact LeO.none _ | refine LeO.ite ?_ ?_ | refine LeO.bind ?_ (fun _ => ?_)) | exact LeO.none _ | refine LeO.ite ?_ ?_ | refine LeO.bind ?_ (fun _ => ?_)
  ·intro y0 y1
   unfold unit_name.l0
   repeat' first | (with_reducible first | exact ih0 _ _ | exact ih1 _ _ | exact LeO.refl _ | exact LeO.none _ | refine LeO.ite ?_ ?_ | refine LeO.bind ?_ (fun _ => ?_)) | exact LeO.none _ | refine LeO.ite ?_ ?_ | refine LeO.bind ?_ (fun _ => ?_)
theorem unit_name.mono : ∀ a0 k, LeO (unit_name.f k a0) (unit_name.f (k + 1) a0) := by
 intro a0 k
 obtain ⟨ih0, ih1⟩ := unit_name.mono_l k
 unfold unit_name.f
 repeat' first | (with_reducible first | exact ih0 _ _ | exact ih1 _ _ | exact LeO.refl _ | exact LeO.none _ | refine LeO.ite ?_ ?_ | refine LeO.bind ?_ (fun _ => ?_)) | exact LeO.none _ | refine LeO.ite ?_ ?_ | refine LeO.bind ?_ (fun _ => ?_)
def unit_reader_skip.l0 : Nat → ByteArray → Rd → Option Rd
 | 0, _, _ => none
 | k + 1, s, x => if 0 ≤ x.i then (if x.i ≤ (s.size : Int) then ((strings_HasPrefix.f (s.extract x.i.toNat s.size) ⟨#[32]⟩).bind fun t => (if t = true then (unit_reader_skip.l0 k s ⟨wrap64 (x.i + 1), x.u, x.e, x.p⟩) else (some x))) else (none)) else (none)
def unit_reader_skip.f (k : Nat) (s : ByteArray) (x : Rd) : Option Rd := unit_reader_skip.l0 k s x
theorem unit_reader_skip.mono_l0 : ∀ k, ∀ y0 y1, LeO (unit_reader_skip.l0 k y0 y1) (unit_reader_skip.l0 (k + 1) y0 y1)
 | 0, _, _ => fun r h => by simp [unit_reader_skip.l0] at h
 | k + 1, y0, y1 => by
  have ih0 := unit_reader_skip.mono_l0 k
  unfold unit_reader_skip.l0
  repeat' first | (with_reducible first | exact ih0 _ _ | exact LeO.refl _ | exact LeO.none _ | refine LeO.ite ?_ ?_ | refine LeO.bind ?_ (fun _ => ?_) | refine LeO.lkp (fun _ => ?_) ?_ | refine LeO.mput (fun _ => ?_)) | refine LeO.ite ?_ ?_ | refine LeO.bind ?_ (fun _ => ?_)
theorem unit_reader_skip.mono : ∀ y0 y1 k, LeO (unit_reader_skip.f k y0 y1) (unit_reader_skip.f (k + 1) y0 y1) := by
 intro y0 y1 k
 unfold unit_reader_skip.f
 repeat' first | (with_reducible first | exact unit_reader_skip.mono_l0 _ _ _ | exact LeO.refl _ | exact LeO.none _ | refine LeO.ite ?_ ?_ | refine LeO.bind ?_ (fun _ => ?_) | refine LeO.lkp (fun _ => ?_) ?_ | refine LeO.mput (fun _ => ?_)) | refine LeO.ite ?_ ?_ | refine LeO.bind ?_ (fun _ => ?_)
def unit_reader_fails.f (x : Rd) (e p : Int) : Option Rd := if x.e = 0 then (some ⟨x.i, x.u, e, p⟩) else (some x)
def unit_raised.f (k : Nat) (u : Un) (n : Int) : Option (Un × Bool) := if n < (-64) then (some (⟨false, ([] : List Int), ([] : List Int), ⟨0, 0, 0, 0, 0, 0, 0⟩⟩, false)) else (if n > 64 then (some (⟨false, ([] : List Int), ([] : List Int), ⟨0, 0, 0, 0, 0, 0, 0⟩⟩, false)) else ((power_Of.f k u.g u.m u.b n).bind fun t => ((dim_Pow.f u.d n).bind fun q => (if t.2.2.2 = 0 then (some (⟨t.1, t.2.1, t.2.2.1, q.1⟩, decide (q.2 = 0))) else (some (⟨t.1, t.2.1, t.2.2.1, q.1⟩, false))))))
theorem unit_raised.mono : ∀ y0 y1 k, LeO (unit_raised.f k y0 y1) (unit_raised.f (k + 1) y0 y1) := by
 intro y0 y1 k
 unfold unit_raised.f
 repeat' first | (with_reducible first | exact power_Of.mono _ _ _ _ _ | exact LeO.refl _ | exact LeO.none _ | refine LeO.ite ?_ ?_ | refine LeO.bind ?_ (fun _ => ?_) | refine LeO.lkp (fun _ => ?_) ?_ | refine LeO.mput (fun _ => ?_)) | refine LeO.ite ?_ ?_ | refine LeO.bind ?_ (fun _ => ?_)
def unit_reader_sign.f (k : Nat) (s : ByteArray) (x : Rd) (g : ByteArray) : Option (Rd × Int) := (unit_reader_skip.f k s x).bind fun y => (if y.i = (s.size : Int) then (some (y, 0)) else (if 0 ≤ y.i then (if y.i ≤ wrap64 (y.i + 1) then (if wrap64 (y.i + 1) ≤ (s.size : Int) then ((strings_Contains.f g (s.extract y.i.toNat (wrap64 (y.i + 1)).toNat)).bind fun t => (if t = true then (if 0 ≤ wrap64 (wrap64 (y.i + 1) - 1) then (if wrap64 (wrap64 (y.i + 1) - 1) < (s.size : Int) then (some (⟨wrap64 (y.i + 1), y.u, y.e, y.p⟩, bt s (wrap64 (wrap64 (y.i + 1) - 1)))) else (none)) else (none)) else (some (y, 0)))) else (none)) else (none)) else (none)))
theorem unit_reader_sign.mono : ∀ y0 y1 y2 k, LeO (unit_reader_sign.f k y0 y1 y2) (unit_reader_sign.f (k + 1) y0 y1 y2) := by
 intro y0 y1 y2 k
 unfold unit_reader_sign.f
 repeat' first | (with_reducible first | exact unit_reader_skip.mono _ _ _ | exact LeO.refl _ | exact LeO.none _ | refine LeO.ite ?_ ?_ | refine LeO.bind ?_ (fun _ => ?_) | refine LeO.lkp (fun _ => ?_) ?_ | refine LeO.mput (fun _ => ?_)) | refine LeO.ite ?_ ?_ | refine LeO.bind ?_ (fun _ => ?_)
end Go.Proofs.YtpchdjdochkjpaaGreatDoor.P
set_option linter.unusedVariables false
set_option linter.unusedSimpArgs false
namespace Go.Proofs.YtpchdjdochkjpaaGreatDoor.P
open Go.RowKit Go.Proofs.YtpchdjdochkjpaaGreatDoorW.PrintWords Go.Proofs.YtpchdjdochkjpaaGreatDoorW.PrintLast Go.Proofs.YtpchdjdochkjpaaGreatDoorW.PrintMore
def unit_Table_add.f (l : Tab) (n : ByteArray) (u : Un) : Option Tab := lkp (tget n l) (fun _ => some l) (mput l n u fun l => some l)
mutual
def unit_Table_fill.l1 : Nat → Tab → Int → Option Tab
 | 0, _, _ => none
 | k + 1, l, j => if j < 5 then ((pfs j).bind fun p => (unit_Table_fill.l2 k l j p 0)) else (some l)
def unit_Table_fill.l2 : Nat → Tab → Int → Pf → Int → Option Tab
 | 0, _, _, _, _ => none
 | k + 1, l, j, p, i => if i < 17 then ((rws i).bind fun r => (if r.q = true then ((unit_number.f k p.v).bind fun a => ((unit_number.f k r.v).bind fun b => ((rat_Mul.f k a.1 a.2.1 a.2.2 b.1 b.2.1 b.2.2).bind fun t => (if p.n.size + r.n.size ≤ 9223372036854775807 then ((unit_Table_add.f l (p.n ++ r.n) ⟨t.1, t.2.1, t.2.2.1, r.d⟩).bind fun l => (unit_Table_fill.l2 k l j p (wrap64 (i + 1)))) else (none))))) else (unit_Table_fill.l2 k l j p (wrap64 (i + 1))))) else (unit_Table_fill.l1 k l (wrap64 (j + 1)))
end
def unit_Table_fill.l0 : Nat → Tab → Int → Option Tab
 | 0, _, _ => none
 | k + 1, l, i => if i < 17 then ((rws i).bind fun r => ((unit_number.f k r.v).bind fun t => ((unit_Table_add.f l r.n ⟨t.1, t.2.1, t.2.2, r.d⟩).bind fun l => (unit_Table_fill.l0 k l (wrap64 (i + 1)))))) else (unit_Table_fill.l1 k l 0)
def unit_Table_fill.f (k : Nat) : Option Tab := unit_Table_fill.l0 k [] 0
theorem unit_Table_fill.mono_gl1 : ∀ k, (∀ y0 y1, LeO (unit_Table_fill.l1 k y0 y1) (unit_Table_fill.l1 (k + 1) y0 y1)) ∧ (∀ y0 y1 y2 y3, LeO (unit_Table_fill.l2 k y0 y1 y2 y3) (unit_Table_fill.l2 (k + 1) y0 y1 y2 y3))
 | 0 => ⟨fun _ _ r h => by simp [unit_Table_fill.l1] at h, fun _ _ _ _ r h => by simp [unit_Table_fill.l2] at h⟩
 | k + 1 => by
  obtain ⟨ih0, ih1⟩ := unit_Table_fill.mono_gl1 k
  refine ⟨fun y0 y1 => ?_, fun y0 y1 y2 y3 => ?_⟩
  ·unfold unit_Table_fill.l1
   repeat' first | (with_reducible first | exact ih0 _ _ | exact ih1 _ _ _ _ | exact unit_number.mono _ _ | exact rat_Mul.mono _ _ _ _ _ _ _ | exact LeO.refl _ | exact LeO.none _ | refine LeO.ite ?_ ?_ | refine LeO.bind ?_ (fun _ => ?_) | refine LeO.lkp (fun _ => ?_) ?_ | refine LeO.mput (fun _ => ?_)) | refine LeO.ite ?_ ?_ | refine LeO.bind ?_ (fun _ => ?_)
  ·unfold unit_Table_fill.l2
   repeat' first | (with_reducible first | exact ih0 _ _ | exact ih1 _ _ _ _ | exact unit_number.mono _ _ | exact rat_Mul.mono _ _ _ _ _ _ _ | exact LeO.refl _ | exact LeO.none _ | refine LeO.ite ?_ ?_ | refine LeO.bind ?_ (fun _ => ?_) | refine LeO.lkp (fun _ => ?_) ?_ | refine LeO.mput (fun _ => ?_)) | refine LeO.ite ?_ ?_ | refine LeO.bind ?_ (fun _ => ?_)
theorem unit_Table_fill.mono_l0 : ∀ k, ∀ y0 y1, LeO (unit_Table_fill.l0 k y0 y1) (unit_Table_fill.l0 (k + 1) y0 y1)
 | 0, _, _ => fun r h => by simp [unit_Table_fill.l0] at h
 | k + 1, y0, y1 => by
  have ih0 := unit_Table_fill.mono_l0 k
  unfold unit_Table_fill.l0
  repeat' first | (with_reducible first | exact ih0 _ _ | exact (unit_Table_fill.mono_gl1 _).1 _ _ | exact (unit_Table_fill.mono_gl1 _).2 _ _ _ _ | exact unit_number.mono _ _ | exact rat_Mul.mono _ _ _ _ _ _ _ | exact LeO.refl _ | exact LeO.none _ | refine LeO.ite ?_ ?_ | refine LeO.bind ?_ (fun _ => ?_) | refine LeO.lkp (fun _ => ?_) ?_ | refine LeO.mput (fun _ => ?_)) | refine LeO.ite ?_ ?_ | refine LeO.bind ?_ (fun _ => ?_)
theorem unit_Table_fill.mono : ∀ k, LeO (unit_Table_fill.f k) (unit_Table_fill.f (k + 1)) := by
 intro k
 unfold unit_Table_fill.f
 repeat' first | (with_reducible first | exact (unit_Table_fill.mono_gl1 _).1 _ _ | exact (unit_Table_fill.mono_gl1 _).2 _ _ _ _ | exact unit_Table_fill.mono_l0 _ _ _ | exact unit_number.mono _ _ | exact rat_Mul.mono _ _ _ _ _ _ _ | exact LeO.refl _ | exact LeO.none _ | refine LeO.ite ?_ ?_ | refine LeO.bind ?_ (fun _ => ?_) | refine LeO.lkp (fun _ => ?_) ?_ | refine LeO.mput (fun _ => ?_)) | refine LeO.ite ?_ ?_ | refine LeO.bind ?_ (fun _ => ?_)
def unit_Table_all.f (k : Nat) (T : Option Tab) : Option Tab := match T with | none => unit_Table_fill.f k | some l => some l
theorem unit_Table_all.mono : ∀ T k, LeO (unit_Table_all.f k T) (unit_Table_all.f (k + 1) T) := by
 intro T k
 cases T
 ·exact unit_Table_fill.mono k
 ·exact LeO.refl _
def unit_Table_all_nil.f : Option Bool := some false
def unit_Table_Of.f (k : Nat) (T : Option Tab) (n : ByteArray) : Option (Tab × Un × Bool) := (unit_Table_all.f k T).bind fun l => (lkp (tget n l) (fun u => ((unit_copied.f k u.g u.m u.b u.d.d0 u.d.d1 u.d.d2 u.d.d3 u.d.d4 u.d.d5 u.d.d6).bind fun t => (some (l, ⟨t.1, t.2.1, t.2.2.1, ⟨t.2.2.2.1, t.2.2.2.2.1, t.2.2.2.2.2.1, t.2.2.2.2.2.2.1, t.2.2.2.2.2.2.2.1, t.2.2.2.2.2.2.2.2.1, t.2.2.2.2.2.2.2.2.2⟩⟩, true)))) (some (l, ⟨false, ([] : List Int), ([] : List Int), ⟨0, 0, 0, 0, 0, 0, 0⟩⟩, false)))
theorem unit_Table_Of.mono : ∀ y0 y1 k, LeO (unit_Table_Of.f k y0 y1) (unit_Table_Of.f (k + 1) y0 y1) := by
 intro y0 y1 k
 unfold unit_Table_Of.f
 repeat' first | (with_reducible first | exact unit_Table_all.mono _ _ | exact unit_copied.mono _ _ _ _ _ _ _ _ _ _ _ | exact LeO.refl _ | exact LeO.none _ | refine LeO.ite ?_ ?_ | refine LeO.bind ?_ (fun _ => ?_) | refine LeO.lkp (fun _ => ?_) ?_ | refine LeO.mput (fun _ => ?_)) | refine LeO.ite ?_ ?_ | refine LeO.bind ?_ (fun _ => ?_)
def unit_Table_Has.f (k : Nat) (T : Option Tab) (n : ByteArray) : Option (Tab × Bool) := (unit_Table_Of.f k T n).bind fun t => (some (t.1, t.2.2))
theorem unit_Table_Has.mono : ∀ y0 y1 k, LeO (unit_Table_Has.f k y0 y1) (unit_Table_Has.f (k + 1) y0 y1) := by
 intro y0 y1 k
 unfold unit_Table_Has.f
 repeat' first | (with_reducible first | exact unit_Table_Of.mono _ _ _ | exact LeO.refl _ | exact LeO.none _ | refine LeO.ite ?_ ?_ | refine LeO.bind ?_ (fun _ => ?_) | refine LeO.lkp (fun _ => ?_) ?_ | refine LeO.mput (fun _ => ?_)) | refine LeO.ite ?_ ?_ | refine LeO.bind ?_ (fun _ => ?_)
def unit_Table_Define.f (k : Nat) (T : Option Tab) (n : ByteArray) (u : Un) : Option (Tab × Int) := (unit_Table_all.f k T).bind fun l => ((unit_may.f k u).bind fun m => (if m = true then (if n.toList = ([] : List UInt8) then (some (l, 1)) else ((unit_name.f k n).bind fun t => (if t = (n.size : Int) then ((unit_Table_Has.f k (some l) n).bind fun q => (if q.2 = true then (some (q.1, 14)) else ((unit_copied.f k u.g u.m u.b u.d.d0 u.d.d1 u.d.d2 u.d.d3 u.d.d4 u.d.d5 u.d.d6).bind fun c => (mput q.1 n ⟨c.1, c.2.1, c.2.2.1, ⟨c.2.2.2.1, c.2.2.2.2.1, c.2.2.2.2.2.1, c.2.2.2.2.2.2.1, c.2.2.2.2.2.2.2.1, c.2.2.2.2.2.2.2.2.1, c.2.2.2.2.2.2.2.2.2⟩⟩ fun l => (some (l, 0)))))) else (some (l, 1))))) else (some (l, 1))))
theorem unit_Table_Define.mono : ∀ y0 y1 y2 k, LeO (unit_Table_Define.f k y0 y1 y2) (unit_Table_Define.f (k + 1) y0 y1 y2) := by
 intro y0 y1 y2 k
 unfold unit_Table_Define.f
 repeat' first | (with_reducible first | exact unit_Table_all.mono _ _ | exact unit_may.mono _ _ | exact unit_name.mono _ _ | exact unit_Table_Has.mono _ _ _ | exact unit_copied.mono _ _ _ _ _ _ _ _ _ _ _ | exact LeO.refl _ | exact LeO.none _ | refine LeO.ite ?_ ?_ | refine LeO.bind ?_ (fun _ => ?_) | refine LeO.lkp (fun _ => ?_) ?_ | refine LeO.mput (fun _ => ?_)) | refine LeO.ite ?_ ?_ | refine LeO.bind ?_ (fun _ => ?_)
def unit_Table_Define_nil.f (n : ByteArray) (u : Un) : Option Int := unit_Table_all_nil.f.bind fun t => (if t = true then (none) else (some 1))
def unit_Table_Names.f (k : Nat) (T : Option Tab) : Option (Tab × List ByteArray) := (unit_Table_all.f k T).bind fun l => (if (decide (l.length * 16 ≤ 140737488355328) && l.all fun p => decide (p.1.size ≤ 9223372036854775807)) = true then (some (l, sortN l)) else (none))
theorem unit_Table_Names.mono : ∀ y0 k, LeO (unit_Table_Names.f k y0) (unit_Table_Names.f (k + 1) y0) := by
 intro y0 k
 unfold unit_Table_Names.f
 repeat' first | (with_reducible first | exact unit_Table_all.mono _ _ | exact LeO.refl _ | exact LeO.none _ | refine LeO.ite ?_ ?_ | refine LeO.bind ?_ (fun _ => ?_) | refine LeO.lkp (fun _ => ?_) ?_ | refine LeO.mput (fun _ => ?_)) | refine LeO.ite ?_ ?_ | refine LeO.bind ?_ (fun _ => ?_)
end Go.Proofs.YtpchdjdochkjpaaGreatDoor.P
set_option linter.unusedVariables false
set_option linter.unusedSimpArgs false
namespace Go.Proofs.YtpchdjdochkjpaaGreatDoor.P
open Go.RowKit Go.Proofs.YtpchdjdochkjpaaGreatDoorW.PrintWords Go.Proofs.YtpchdjdochkjpaaGreatDoorW.PrintLast Go.Proofs.YtpchdjdochkjpaaGreatDoorW.PrintMore
def unit_reader_exponent.e (s : ByteArray) (n : Bool) (x : Rd) (d c : Int) : Option (Rd × Int) := if c = 0 then ((unit_reader_fails.f x 12 x.i).bind fun y => (if n = true then (some (y, wrap64 (-d))) else (some (y, d)))) else (if x.i < (s.size : Int) then (if 0 ≤ x.i then ((unit_digit.f (bt s x.i)).bind fun g => (if g = true then ((unit_reader_fails.f x 12 x.i).bind fun y => (if n = true then (some (y, wrap64 (-d))) else (some (y, d)))) else (if n = true then (some (x, wrap64 (-d))) else (some (x, d))))) else (none)) else (if n = true then (some (x, wrap64 (-d))) else (some (x, d))))
def unit_reader_exponent.l0 : Nat → ByteArray → Bool → Rd → Int → Int → Option (Rd × Int)
 | 0, _, _, _, _, _ => none
 | k + 1, s, n, x, d, c => if c < 3 then (if x.i < (s.size : Int) then (if 0 ≤ x.i then ((unit_digit.f (bt s x.i)).bind fun g => (if g = true then (unit_reader_exponent.l0 k s n ⟨wrap64 (x.i + 1), x.u, x.e, x.p⟩ (wrap64 (wrap64 (10 * d) + (bt s x.i - 48) % 256)) (wrap64 (c + 1))) else (unit_reader_exponent.e s n x d c))) else (none)) else (unit_reader_exponent.e s n x d c)) else (unit_reader_exponent.e s n x d c)
def unit_reader_exponent.f (k : Nat) (s : ByteArray) (x : Rd) : Option (Rd × Int) := (unit_reader_sign.f k s x (⟨#[94]⟩ : ByteArray)).bind fun a => (if a.2 = 0 then (some (a.1, 1)) else ((unit_reader_sign.f k s a.1 (⟨#[45]⟩ : ByteArray)).bind fun b => ((unit_reader_skip.f k s b.1).bind fun y => (unit_reader_exponent.l0 k s (!decide (b.2 = 0)) y 0 0))))
theorem unit_reader_exponent.mono_l0 : ∀ k, ∀ y0 y1 y2 y3 y4, LeO (unit_reader_exponent.l0 k y0 y1 y2 y3 y4) (unit_reader_exponent.l0 (k + 1) y0 y1 y2 y3 y4)
 | 0, _, _, _, _, _ => fun r h => by simp [unit_reader_exponent.l0] at h
 | k + 1, y0, y1, y2, y3, y4 => by
  have ih0 := unit_reader_exponent.mono_l0 k
  unfold unit_reader_exponent.l0
  repeat' first | (with_reducible first | exact ih0 _ _ _ _ _ | exact unit_reader_sign.mono _ _ _ _ | exact unit_reader_skip.mono _ _ _ | exact LeO.refl _ | exact LeO.none _ | refine LeO.ite ?_ ?_ | refine LeO.bind ?_ (fun _ => ?_) | refine LeO.lkp (fun _ => ?_) ?_ | refine LeO.mput (fun _ => ?_)) | refine LeO.ite ?_ ?_ | refine LeO.bind ?_ (fun _ => ?_)
theorem unit_reader_exponent.mono : ∀ y0 y1 k, LeO (unit_reader_exponent.f k y0 y1) (unit_reader_exponent.f (k + 1) y0 y1) := by
 intro y0 y1 k
 unfold unit_reader_exponent.f
 repeat' first | (with_reducible first | exact unit_reader_exponent.mono_l0 _ _ _ _ _ _ | exact unit_reader_sign.mono _ _ _ _ | exact unit_reader_skip.mono _ _ _ | exact LeO.refl _ | exact LeO.none _ | refine LeO.ite ?_ ?_ | refine LeO.bind ?_ (fun _ => ?_) | refine LeO.lkp (fun _ => ?_) ?_ | refine LeO.mput (fun _ => ?_)) | refine LeO.ite ?_ ?_ | refine LeO.bind ?_ (fun _ => ?_)
end Go.Proofs.YtpchdjdochkjpaaGreatDoor.P
set_option linter.unusedVariables false
set_option linter.unusedSimpArgs false
namespace Go.Proofs.YtpchdjdochkjpaaGreatDoor.P
open Go.RowKit Go.Proofs.YtpchdjdochkjpaaGreatDoorW.PrintWords Go.Proofs.YtpchdjdochkjpaaGreatDoorW.PrintLast Go.Proofs.YtpchdjdochkjpaaGreatDoorW.PrintMore
def unit_product.f (k : Nat) (a b : Un) (over : Bool) : Option (Un × Bool) := if over = true then ((rat_Div.f k a.g a.m a.b b.g b.m b.b).bind fun t => ((dim_Div.f a.d b.d).bind fun q => (if t.2.2.2 = 0 then (some (⟨t.1, t.2.1, t.2.2.1, q.1⟩, decide (q.2 = 0))) else (some (⟨t.1, t.2.1, t.2.2.1, q.1⟩, false))))) else ((rat_Mul.f k a.g a.m a.b b.g b.m b.b).bind fun t => ((dim_Mul.f a.d b.d).bind fun q => (if t.2.2.2 = 0 then (some (⟨t.1, t.2.1, t.2.2.1, q.1⟩, decide (q.2 = 0))) else (some (⟨t.1, t.2.1, t.2.2.1, q.1⟩, false)))))
theorem unit_product.mono : ∀ y0 y1 y2 k, LeO (unit_product.f k y0 y1 y2) (unit_product.f (k + 1) y0 y1 y2) := by
 intro y0 y1 y2 k
 unfold unit_product.f
 repeat' first | (with_reducible first | exact rat_Mul.mono _ _ _ _ _ _ _ | exact rat_Div.mono _ _ _ _ _ _ _ | exact LeO.refl _ | exact LeO.none _ | refine LeO.ite ?_ ?_ | refine LeO.bind ?_ (fun _ => ?_) | refine LeO.lkp (fun _ => ?_) ?_ | refine LeO.mput (fun _ => ?_)) | refine LeO.ite ?_ ?_ | refine LeO.bind ?_ (fun _ => ?_)
end Go.Proofs.YtpchdjdochkjpaaGreatDoor.P
set_option linter.unusedVariables false
set_option linter.unusedSimpArgs false
namespace Go.Proofs.YtpchdjdochkjpaaGreatDoor.P
open Go.RowKit Go.Proofs.YtpchdjdochkjpaaGreatDoorW.PrintWords Go.Proofs.YtpchdjdochkjpaaGreatDoorW.PrintLast Go.Proofs.YtpchdjdochkjpaaGreatDoorW.PrintMore
def unit_reader_piece.p (k : Nat) (l : Tab) (o : Bool) (a : Int) (y : Rd) (u : Un × Bool) : Option (Tab × Rd) := if y.e = 0 then (if u.2 = true then ((unit_product.f k y.u u.1 o).bind fun m => (if m.2 = true then (some (l, ⟨y.i, m.1, y.e, y.p⟩)) else ((unit_reader_fails.f ⟨y.i, m.1, y.e, y.p⟩ 2 a).bind fun q => (some (l, q))))) else ((unit_reader_fails.f y 2 a).bind fun q => (some (l, q)))) else (if u.2 = true then (some (l, y)) else ((unit_reader_fails.f y 2 a).bind fun q => (some (l, q))))
def unit_reader_piece.r (k : Nat) (l : Tab) (s : ByteArray) (o : Bool) (a : Int) (y : Rd) : Option (Tab × Rd) := if a ≤ y.i then (if y.i ≤ (s.size : Int) then ((unit_Table_Of.f k (some l) (s.extract a.toNat y.i.toNat)).bind fun t => (if t.2.2 = true then ((unit_reader_exponent.f k s y).bind fun e => ((unit_raised.f k t.2.1 e.2).bind fun u => (unit_reader_piece.p k t.1 o a e.1 u))) else ((unit_reader_fails.f y 15 a).bind fun q => (some (t.1, q))))) else (none)) else (none)
def unit_reader_piece.f (k : Nat) (l : Tab) (s : ByteArray) (x : Rd) (o : Bool) : Option (Tab × Rd) := (unit_reader_skip.f k s x).bind fun y => (if 0 ≤ y.i then (if y.i ≤ (s.size : Int) then ((strings_HasPrefix.f (s.extract y.i.toNat s.size) (⟨#[49]⟩ : ByteArray)).bind fun t => (if t = true then (some (l, ⟨wrap64 (y.i + 1), y.u, y.e, y.p⟩)) else ((unit_name.f k (s.extract y.i.toNat s.size)).bind fun n => (if n = 0 then ((unit_reader_fails.f y 12 y.i).bind fun q => (some (l, q))) else (if wrap64 (y.i + n) < (s.size : Int) then (if 0 ≤ wrap64 (y.i + n) then (if wrap64 (y.i + n) ≤ wrap64 (wrap64 (y.i + n) + 1) then (if wrap64 (wrap64 (y.i + n) + 1) ≤ (s.size : Int) then (if 1 + (s.extract (wrap64 (y.i + n)).toNat (wrap64 (wrap64 (y.i + n) + 1)).toNat).size ≤ 9223372036854775807 then ((unit_name.f k ((⟨#[97]⟩ : ByteArray) ++ s.extract (wrap64 (y.i + n)).toNat (wrap64 (wrap64 (y.i + n) + 1)).toNat)).bind fun m => (if m = 2 then ((unit_reader_fails.f ⟨wrap64 (y.i + n), y.u, y.e, y.p⟩ 12 (wrap64 (y.i + n))).bind fun q => (some (l, q))) else (unit_reader_piece.r k l s o y.i ⟨wrap64 (y.i + n), y.u, y.e, y.p⟩))) else (none)) else (none)) else (none)) else (none)) else (unit_reader_piece.r k l s o y.i ⟨wrap64 (y.i + n), y.u, y.e, y.p⟩)))))) else (none)) else (none))
theorem unit_reader_piece.mono_p : ∀ k, ∀ y0 y1 y2 y3 y4, LeO (unit_reader_piece.p k y0 y1 y2 y3 y4) (unit_reader_piece.p (k + 1) y0 y1 y2 y3 y4) := by
 intro k y0 y1 y2 y3 y4
 unfold unit_reader_piece.p
 repeat' first | (with_reducible first | exact unit_reader_skip.mono _ _ _ | exact unit_name.mono _ _ | exact unit_Table_Of.mono _ _ _ | exact unit_reader_exponent.mono _ _ _ | exact unit_raised.mono _ _ _ | exact unit_product.mono _ _ _ _ | exact LeO.refl _ | exact LeO.none _ | refine LeO.ite ?_ ?_ | refine LeO.bind ?_ (fun _ => ?_) | refine LeO.lkp (fun _ => ?_) ?_ | refine LeO.mput (fun _ => ?_)) | refine LeO.ite ?_ ?_ | refine LeO.bind ?_ (fun _ => ?_)
theorem unit_reader_piece.mono_r : ∀ k, ∀ y0 y1 y2 y3 y4, LeO (unit_reader_piece.r k y0 y1 y2 y3 y4) (unit_reader_piece.r (k + 1) y0 y1 y2 y3 y4) := by
 intro k y0 y1 y2 y3 y4
 unfold unit_reader_piece.r
 repeat' first | (with_reducible first | exact unit_reader_piece.mono_p _ _ _ _ _ _ | exact unit_reader_skip.mono _ _ _ | exact unit_name.mono _ _ | exact unit_Table_Of.mono _ _ _ | exact unit_reader_exponent.mono _ _ _ | exact unit_raised.mono _ _ _ | exact unit_product.mono _ _ _ _ | exact LeO.refl _ | exact LeO.none _ | refine LeO.ite ?_ ?_ | refine LeO.bind ?_ (fun _ => ?_) | refine LeO.lkp (fun _ => ?_) ?_ | refine LeO.mput (fun _ => ?_)) | refine LeO.ite ?_ ?_ | refine LeO.bind ?_ (fun _ => ?_)
theorem unit_reader_piece.mono : ∀ y0 y1 y2 y3 k, LeO (unit_reader_piece.f k y0 y1 y2 y3) (unit_reader_piece.f (k + 1) y0 y1 y2 y3) := by
 intro y0 y1 y2 y3 k
 unfold unit_reader_piece.f
 repeat' first | (with_reducible first | exact unit_reader_piece.mono_p _ _ _ _ _ _ | exact unit_reader_piece.mono_r _ _ _ _ _ _ | exact unit_reader_skip.mono _ _ _ | exact unit_name.mono _ _ | exact unit_Table_Of.mono _ _ _ | exact unit_reader_exponent.mono _ _ _ | exact unit_raised.mono _ _ _ | exact unit_product.mono _ _ _ _ | exact LeO.refl _ | exact LeO.none _ | refine LeO.ite ?_ ?_ | refine LeO.bind ?_ (fun _ => ?_) | refine LeO.lkp (fun _ => ?_) ?_ | refine LeO.mput (fun _ => ?_)) | refine LeO.ite ?_ ?_ | refine LeO.bind ?_ (fun _ => ?_)
end Go.Proofs.YtpchdjdochkjpaaGreatDoor.P
set_option linter.unusedVariables false
set_option linter.unusedSimpArgs false
namespace Go.Proofs.YtpchdjdochkjpaaGreatDoor.P
open Go.RowKit Go.Proofs.YtpchdjdochkjpaaGreatDoorW.PrintWords Go.Proofs.YtpchdjdochkjpaaGreatDoorW.PrintLast Go.Proofs.YtpchdjdochkjpaaGreatDoorW.PrintMore
def unit_Table_Parse.d (l : Tab) (y : Rd) : Option (Tab × Un × Int × Int) := if y.e = 0 then (some (l, y.u, 0, 0)) else (some (l, ⟨false, ([] : List Int), ([] : List Int), ⟨0, 0, 0, 0, 0, 0, 0⟩⟩, y.e, y.p))
def unit_Table_Parse.e (k : Nat) (l : Tab) (s : ByteArray) (y : Rd) : Option (Tab × Un × Int × Int) := (unit_reader_skip.f k s y).bind fun z => (if z.i < (s.size : Int) then ((unit_reader_fails.f z 12 z.i).bind fun q => (unit_Table_Parse.d l q)) else (unit_Table_Parse.d l z))
def unit_Table_Parse.l0 : Nat → ByteArray → Tab → Rd → Option (Tab × Un × Int × Int)
 | 0, _, _, _ => none
 | k + 1, s, l, y => if y.e = 0 then ((unit_reader_sign.f k s y (⟨#[42, 47]⟩ : ByteArray)).bind fun z => (if z.2 = 0 then (unit_Table_Parse.e k l s z.1) else ((unit_reader_piece.f k l s z.1 (decide (z.2 = 47))).bind fun q => (unit_Table_Parse.l0 k s q.1 q.2)))) else (unit_Table_Parse.e k l s y)
def unit_Table_Parse.f (k : Nat) (T : Option Tab) (s : ByteArray) : Option (Tab × Un × Int × Int) := (unit_Table_all.f k T).bind fun l => (if (s.size : Int) > 200 then (some (l, ⟨false, ([] : List Int), ([] : List Int), ⟨0, 0, 0, 0, 0, 0, 0⟩⟩, 2, 0)) else ((rat_Whole.f k 1).bind fun a => ((unit_reader_piece.f k l s ⟨0, ⟨a.1, a.2.1, a.2.2, ⟨0, 0, 0, 0, 0, 0, 0⟩⟩, 0, 0⟩ false).bind fun q => (unit_Table_Parse.l0 k s q.1 q.2))))
theorem unit_Table_Parse.mono_e : ∀ k, ∀ y0 y1 y2, LeO (unit_Table_Parse.e k y0 y1 y2) (unit_Table_Parse.e (k + 1) y0 y1 y2) := by
 intro k y0 y1 y2
 unfold unit_Table_Parse.e
 repeat' first | (with_reducible first | exact unit_Table_all.mono _ _ | exact rat_Whole.mono _ _ | exact unit_reader_piece.mono _ _ _ _ _ | exact unit_reader_sign.mono _ _ _ _ | exact unit_reader_skip.mono _ _ _ | exact LeO.refl _ | exact LeO.none _ | refine LeO.ite ?_ ?_ | refine LeO.bind ?_ (fun _ => ?_) | refine LeO.lkp (fun _ => ?_) ?_ | refine LeO.mput (fun _ => ?_)) | refine LeO.ite ?_ ?_ | refine LeO.bind ?_ (fun _ => ?_)
theorem unit_Table_Parse.mono_l0 : ∀ k, ∀ y0 y1 y2, LeO (unit_Table_Parse.l0 k y0 y1 y2) (unit_Table_Parse.l0 (k + 1) y0 y1 y2)
 | 0, _, _, _ => fun r h => by simp [unit_Table_Parse.l0] at h
 | k + 1, y0, y1, y2 => by
  have ih0 := unit_Table_Parse.mono_l0 k
  unfold unit_Table_Parse.l0
  repeat' first | (with_reducible first | exact ih0 _ _ _ | exact unit_Table_Parse.mono_e _ _ _ _ | exact unit_Table_all.mono _ _ | exact rat_Whole.mono _ _ | exact unit_reader_piece.mono _ _ _ _ _ | exact unit_reader_sign.mono _ _ _ _ | exact unit_reader_skip.mono _ _ _ | exact LeO.refl _ | exact LeO.none _ | refine LeO.ite ?_ ?_ | refine LeO.bind ?_ (fun _ => ?_) | refine LeO.lkp (fun _ => ?_) ?_ | refine LeO.mput (fun _ => ?_)) | refine LeO.ite ?_ ?_ | refine LeO.bind ?_ (fun _ => ?_)
theorem unit_Table_Parse.mono : ∀ y0 y1 k, LeO (unit_Table_Parse.f k y0 y1) (unit_Table_Parse.f (k + 1) y0 y1) := by
 intro y0 y1 k
 unfold unit_Table_Parse.f
 repeat' first | (with_reducible first | exact unit_Table_Parse.mono_e _ _ _ _ | exact unit_Table_Parse.mono_l0 _ _ _ _ | exact unit_Table_all.mono _ _ | exact rat_Whole.mono _ _ | exact unit_reader_piece.mono _ _ _ _ _ | exact unit_reader_sign.mono _ _ _ _ | exact unit_reader_skip.mono _ _ _ | exact LeO.refl _ | exact LeO.none _ | refine LeO.ite ?_ ?_ | refine LeO.bind ?_ (fun _ => ?_) | refine LeO.lkp (fun _ => ?_) ?_ | refine LeO.mput (fun _ => ?_)) | refine LeO.ite ?_ ?_ | refine LeO.bind ?_ (fun _ => ?_)
def unit_Table_Parse_nil.f (s : ByteArray) : Option (Un × Int × Int) := unit_Table_all_nil.f.bind fun t => (if t = true then (none) else (some (⟨false, ([] : List Int), ([] : List Int), ⟨0, 0, 0, 0, 0, 0, 0⟩⟩, 1, 0)))
end Go.Proofs.YtpchdjdochkjpaaGreatDoor.P
set_option linter.unusedVariables false
set_option linter.unusedSimpArgs false
namespace Go.Proofs.YtpchdjdochkjpaaGreatDoor.P
open Go.RowKit Go.Proofs.YtpchdjdochkjpaaGreatDoorW.PrintWords Go.Proofs.YtpchdjdochkjpaaGreatDoorW.PrintLast Go.Proofs.YtpchdjdochkjpaaGreatDoorW.PrintMore
def steelyardlaw12_wakes.f (k : Nat) : Option Bool := (unit_Table_Parse.f k none (⟨#[107, 103, 42, 109, 47, 115, 94, 50]⟩ : ByteArray)).bind fun n => ((unit_Table_Parse.f k (some n.1) (⟨#[107, 103, 32, 109, 47, 115, 94, 50]⟩ : ByteArray)).bind fun f => ((unit_Table_Parse.f k (some f.1) (⟨#[109, 42, 120, 120]⟩ : ByteArray)).bind fun g => ((unit_Table_Parse.f k (some g.1) (⟨#[32, 109, 76, 32, 47, 32, 109, 105, 110, 32, 94, 32, 45, 50, 32]⟩ : ByteArray)).bind fun l => ((steelyardlaw07_By.f k 381 1250).bind fun b => ((unit_Table_Define.f k (some l.1) (⟨#[102, 111, 111, 116]⟩ : ByteArray) ⟨b.1, b.2.1, b.2.2, ⟨1, 0, 0, 0, 0, 0, 0⟩⟩).bind fun d => ((rat_Whole.f k 2).bind fun w => ((unit_Table_Define.f k (some d.1) (⟨#[109]⟩ : ByteArray) ⟨w.1, w.2.1, w.2.2, ⟨0, 0, 0, 0, 0, 0, 0⟩⟩).bind fun x => ((unit_Table_Of.f k (some x.1) (⟨#[102, 111, 111, 116]⟩ : ByteArray)).bind fun u => ((unit_Table_Parse_nil.f (⟨#[109]⟩ : ByteArray)).bind fun i => (if n.2.2.1 = 0 then ((rat_Whole.f k 1).bind fun o => ((steelyardkeep_Unit.f k n.2.1 ⟨o.1, o.2.1, o.2.2, ⟨1, 1, -2, 0, 0, 0, 0⟩⟩).bind fun c1 => (if c1 = true then (if (decide (f.2.2.1 = 12) && decide (f.2.2.2 = 3)) = true then (if (decide (g.2.2.1 = 15) && decide (g.2.2.2 = 2)) = true then (if l.2.2.1 = 0 then ((steelyardlaw07_By.f k 3600 1000000).bind fun p => ((steelyardkeep_Rat.f k l.2.1.g l.2.1.m l.2.1.b p.1 p.2.1 p.2.2).bind fun c2 => (if c2 = true then (if ((decide (l.2.1.d.d0 = 3) && (decide (l.2.1.d.d1 = 0) && (decide (l.2.1.d.d2 = 2) && (decide (l.2.1.d.d3 = 0) && (decide (l.2.1.d.d4 = 0) && (decide (l.2.1.d.d5 = 0) && (decide (l.2.1.d.d6 = 0))))))))) = true then (if d.2 = 0 then (if x.2 = 14 then (if u.2.2 = true then (if ((decide (u.2.1.d.d0 = 1) && (decide (u.2.1.d.d1 = 0) && (decide (u.2.1.d.d2 = 0) && (decide (u.2.1.d.d3 = 0) && (decide (u.2.1.d.d4 = 0) && (decide (u.2.1.d.d5 = 0) && (decide (u.2.1.d.d6 = 0))))))))) = true then ((unit_Table_Names.f k (some u.1)).bind fun m => (if (m.2.length : Int) = 93 then ((unit_Table_Has.f k (some m.1) (⟨#[117, 99, 100]⟩ : ByteArray)).bind fun y => (if y.2 = true then ((unit_Table_Has.f k (some y.1) (⟨#[107, 109, 105, 110]⟩ : ByteArray)).bind fun z => (if (!z.2) = true then (if (decide (i.2.1 = 1) && decide (i.2.2 = 0)) = true then ((unit_Table_Define_nil.f (⟨#[109]⟩ : ByteArray) u.2.1).bind fun q => (if q = 1 then (some true) else (none))) else (none)) else (none))) else (none))) else (none))) else (none)) else (none)) else (none)) else (none)) else (none)) else (none)))) else (none)) else (none)) else (none)) else (none)))) else (none)))))))))))
theorem steelyardlaw12_wakes.mono : ∀ k, LeO (steelyardlaw12_wakes.f k) (steelyardlaw12_wakes.f (k + 1)) := by
 intro k
 unfold steelyardlaw12_wakes.f
 repeat' first | (with_reducible first | exact unit_Table_Parse.mono _ _ _ | exact unit_Table_Define.mono _ _ _ _ | exact unit_Table_Of.mono _ _ _ | exact unit_Table_Names.mono _ _ | exact unit_Table_Has.mono _ _ _ | exact steelyardlaw07_By.mono _ _ _ | exact rat_Whole.mono _ _ | exact steelyardkeep_Unit.mono _ _ _ | exact steelyardkeep_Rat.mono _ _ _ _ _ _ _ | exact LeO.refl _ | exact LeO.none _ | refine LeO.ite ?_ ?_ | refine LeO.bind ?_ (fun _ => ?_) | refine LeO.lkp (fun _ => ?_) ?_ | refine LeO.mput (fun _ => ?_)) | refine LeO.ite ?_ ?_ | refine LeO.bind ?_ (fun _ => ?_)
def steelyardlaw12_dec.f (a0 : Int) : Option (ByteArray) := some (strOfNums (([(48 + a0) % 256] : List Int)))
def steelyardlaw12_Long.f (a0_0 : Bool) (l0_1 : List Int) (l0_2 : List Int) (a0_3 : Int) (a0_4 : Int) (a0_5 : Int) (a0_6 : Int) (a0_7 : Int) (a0_8 : Int) (a0_9 : Int) : Option (Bool) := (steelyardlaw07_Long.f a0_0 l0_1 l0_2).bind fun t1394 => (some t1394)
end Go.Proofs.YtpchdjdochkjpaaGreatDoor.P
set_option linter.unusedVariables false
set_option linter.unusedSimpArgs false
namespace Go.Proofs.YtpchdjdochkjpaaGreatDoor.P
open Go.RowKit Go.Proofs.YtpchdjdochkjpaaGreatDoorW.PrintWords Go.Proofs.YtpchdjdochkjpaaGreatDoorW.PrintLast Go.Proofs.YtpchdjdochkjpaaGreatDoorW.PrintMore
def steelyardref11_Good.f (d : Dm) : Option Bool := if d.d0 < (-200) then (some false) else (if d.d0 > 200 then (some false) else (if d.d1 < (-200) then (some false) else (if d.d1 > 200 then (some false) else (if d.d2 < (-200) then (some false) else (if d.d2 > 200 then (some false) else (if d.d3 < (-200) then (some false) else (if d.d3 > 200 then (some false) else (if d.d4 < (-200) then (some false) else (if d.d4 > 200 then (some false) else (if d.d5 < (-200) then (some false) else (if d.d5 > 200 then (some false) else (if d.d6 < (-200) then (some false) else (if d.d6 > 200 then (some false) else (some true))))))))))))))
end Go.Proofs.YtpchdjdochkjpaaGreatDoor.P
set_option linter.unusedVariables false
set_option linter.unusedSimpArgs false
namespace Go.Proofs.YtpchdjdochkjpaaGreatDoor.P
open Go.RowKit Go.Proofs.YtpchdjdochkjpaaGreatDoorW.PrintWords Go.Proofs.YtpchdjdochkjpaaGreatDoorW.PrintLast Go.Proofs.YtpchdjdochkjpaaGreatDoorW.PrintMore
def steelyardref12_letter.f (a0 : Int) : Option (Bool) := if a0 ≥ 97 then (if a0 ≤ 122 then (some true) else (if a0 ≥ 65 then (some (decide (a0 ≤ 90))) else (some false))) else (if a0 ≥ 65 then (some (decide (a0 ≤ 90))) else (some false))
def steelyardref12_digit.f (a0 : Int) : Option (Bool) := if a0 ≥ 48 then (some (decide (a0 ≤ 57))) else (some false)
def steelyardref12_Name.l0 : Nat → ByteArray → Int → Option (Bool)
 | 0, _, _ => none
 | k + 1, x0, x3 => if x3 < (x0.size : Int) then (if 0 ≤ x3 then ((steelyardref12_letter.f (bt x0 x3)).bind fun t1471 => (if t1471 = true then (steelyardref12_Name.l0 k x0 (wrap64 (x3 + 1))) else (if x3 = 0 then (some false) else ((steelyardref12_digit.f (bt x0 x3)).bind fun t1472 => (if t1472 = true then (steelyardref12_Name.l0 k x0 (wrap64 (x3 + 1))) else (if (bt x0 x3) = 95 then (steelyardref12_Name.l0 k x0 (wrap64 (x3 + 1))) else (some false))))))) else (none)) else (if (x0.size : Int) ≥ 1 then (some (decide ((x0.size : Int) ≤ 16))) else (some false))
def steelyardref12_Name.f (k : Nat) (a0 : ByteArray) : Option (Bool) := steelyardref12_Name.l0 k a0 0
theorem steelyardref12_Name.mono_l : ∀ k, (∀ y0 y1, LeO (steelyardref12_Name.l0 k y0 y1) (steelyardref12_Name.l0 (k + 1) y0 y1))
 | 0 => fun _ _ r h => by simp [steelyardref12_Name.l0] at h
 | k + 1 => by
  have ih0 := steelyardref12_Name.mono_l k
  ·intro y0 y1
   unfold steelyardref12_Name.l0
   repeat' first | (with_reducible first | exact ih0 _ _ | exact LeO.refl _ | exact LeO.none _ | refine LeO.ite ?_ ?_ | refine LeO.bind ?_ (fun _ => ?_)) | exact LeO.none _ | refine LeO.ite ?_ ?_ | refine LeO.bind ?_ (fun _ => ?_)
theorem steelyardref12_Name.mono : ∀ a0 k, LeO (steelyardref12_Name.f k a0) (steelyardref12_Name.f (k + 1) a0) := by
 intro a0 k
 have ih0 := steelyardref12_Name.mono_l k
 unfold steelyardref12_Name.f
 repeat' first | (with_reducible first | exact ih0 _ _ | exact LeO.refl _ | exact LeO.none _ | refine LeO.ite ?_ ?_ | refine LeO.bind ?_ (fun _ => ?_)) | exact LeO.none _ | refine LeO.ite ?_ ?_ | refine LeO.bind ?_ (fun _ => ?_)
def steelyardref12_May.f (k : Nat) (u : Un) : Option Bool := (steelyardref07_Good.f k u.g u.m u.b).bind fun t => (if t = true then ((steelyardref07_Sign.f k u.g u.m u.b).bind fun q => (if q > 0 then ((steelyardref11_Good.f u.d).bind fun z => (some z)) else (some false))) else (some false))
theorem steelyardref12_May.mono : ∀ y0 k, LeO (steelyardref12_May.f k y0) (steelyardref12_May.f (k + 1) y0) := by
 intro y0 k
 unfold steelyardref12_May.f
 repeat' first | (with_reducible first | exact steelyardref07_Good.mono _ _ _ _ | exact steelyardref07_Sign.mono _ _ _ _ | exact LeO.refl _ | exact LeO.none _ | refine LeO.ite ?_ ?_ | refine LeO.bind ?_ (fun _ => ?_) | refine LeO.lkp (fun _ => ?_) ?_ | refine LeO.mput (fun _ => ?_)) | refine LeO.ite ?_ ?_ | refine LeO.bind ?_ (fun _ => ?_)
end Go.Proofs.YtpchdjdochkjpaaGreatDoor.P

/- Strings as lists of bytes (ns), and how cuts, sums and the made ones read. No program in sight. -/
import Derived.Test.YtijjnjdfdoaafaaDoorLibA
import Derived.Laws.BytesArg
import Derived.Laws.Strings
set_option linter.unusedVariables false
set_option linter.unusedSimpArgs false
namespace Go.Proofs.YtijjnjdfdoaafaaDoor.Lib
open Go.RowKit Go.Proofs.YtijjnjdfdoaafaaDoorW.PrintWords Go.Proofs.YtijjnjdfdoaafaaDoorW.PrintMore
/-- A string's bytes. -/
def ns (s : ByteArray) : List Int := s.data.toList.map fun b => (b.toNat : Int)
/-- Bytes. -/
def B8 (l : List Int) : Prop := ∀ x ∈ l, 0 ≤ x ∧ x < 256
theorem ns_len (s : ByteArray) : (ns s).length = s.size := by unfold ns; rw [List.length_map, Array.length_toList]; rfl
theorem ns_B8 (s : ByteArray) : B8 (ns s) := fun x hx => by
  simp only [ns, List.mem_map] at hx
  obtain ⟨b, _, rfl⟩ := hx
  have := b.toNat_lt
  omega
theorem bt_ns (s : ByteArray) (i : Nat) : bt s (i : Int) = (ns s).getD i 0 := by
  unfold bt
  rw [Int.toNat_natCast]
  by_cases h : i < s.size
  · rw [dif_pos h, List.getD_eq_getElem?_getD, List.getElem?_eq_getElem (by rw [ns_len]; exact h), Option.getD_some]
    simp only [ns, List.getElem_map, ByteArray.getElem_eq_getElem_data, Array.getElem_toList]
  · rw [dif_neg h, List.getD_eq_getElem?_getD, List.getElem?_eq_none (by rw [ns_len]; omega), Option.getD_none]
theorem ns_append (s t : ByteArray) : ns (s ++ t) = ns s ++ ns t := by simp [ns, ByteArray.data_append]
theorem ns_extract (s : ByteArray) (a b : Nat) : ns (s.extract a b) = ((ns s).drop a).take (b - a) := by
  simp only [ns, ByteArray.data_extract, Array.toList_extract, List.extract_eq_take_drop, List.map_take, List.map_drop]
theorem ns_strOf {l : List Int} (h : B8 l) : ns (strOfNums l) = l := by
  unfold ns
  rw [strOfNums_data, List.map_map]
  conv => rhs; rw [← List.map_id l]
  refine List.map_congr_left fun x hx => ?_
  have := h x hx
  simp only [Function.comp_apply, id_eq, UInt8.toNat_ofNat']
  omega
theorem ns_inj {s t : ByteArray} (h : ns s = ns t) : s = t := by
  have h2 : s.data.toList = t.data.toList := by
    unfold ns at h
    refine List.map_inj_right (f := fun b : UInt8 => (b.toNat : Int)) (fun a b e => ?_) |>.1 h
    exact UInt8.toNat_inj.1 (Int.ofNat.inj e)
  cases s; cases t
  simp only [ByteArray.mk.injEq]
  exact Array.toList_inj.1 h2
theorem ns_eq_iff {s t : ByteArray} : s.toList = t.toList ↔ ns s = ns t := by
  rw [ByteArray.toList_eq, ByteArray.toList_eq]
  constructor
  · intro h; unfold ns; rw [h]
  · intro h; rw [ns_inj h]
theorem ns_nil_iff {s : ByteArray} : s.toList = ([] : List UInt8) ↔ ns s = [] := by
  rw [ByteArray.toList_eq]
  unfold ns
  rw [List.map_eq_nil_iff]
theorem ns_size (s : ByteArray) : s.size = (ns s).length := (ns_len s).symm
end Go.Proofs.YtijjnjdfdoaafaaDoor.Lib

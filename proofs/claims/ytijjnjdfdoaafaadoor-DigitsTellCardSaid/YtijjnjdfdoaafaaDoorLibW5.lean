/- The look whether package digits wakes: it does. -/
import Derived.Test.YtijjnjdfdoaafaaDoorLibH2
import Derived.Test.YtijjnjdfdoaafaaDoorPxsteelyardlaw05
set_option linter.unusedVariables false
set_option linter.unusedSimpArgs false
namespace Go.Proofs.YtijjnjdfdoaafaaDoor.Lib
open Go.RowKit Go.Proofs.YtijjnjdfdoaafaaDoorW.PrintWords Go.Proofs.YtijjnjdfdoaafaaDoorW.PrintMore Go.Proofs.YtijjnjdfdoaafaaDoor.P
theorem Dg_dec (l : List Int) : Dg l ↔ l.all (fun x => decide (48 ≤ x) && decide (x ≤ 57)) = true := by
  simp [Dg, List.all_eq_true]
theorem toList_T {n : Nat} {l : List UInt8} (h : tx n = l.map fun b => (b.toNat : Int)) : (T n).toList = l := by
  rw [ByteArray.toList_eq]
  unfold T
  rw [strOfNums_data, h, List.map_map]
  conv => rhs; rw [← List.map_id l]
  refine List.map_congr_left fun x _ => ?_
  simp
theorem wakes5 : Ev (fun k => steelyardlaw05_wakes.f k) true := by
  have h1 := Parse_to (s := ⟨#[49, 56, 52, 52, 54, 55, 52, 52, 48, 55, 51, 55, 48, 57, 53, 53, 49, 54, 49, 54]⟩) (n := 18446744073709551616) (by decide) (by decide) ((Dg_dec _).2 (by decide)) (by decide +kernel)
  have h2 := Parse_no (s := ⟨#[49, 97]⟩) (.inr (.inr fun h => by have := (Dg_dec _).1 h; revert this; decide))
  have h3 := Parse_no (s := ⟨#[]⟩) (.inl (by decide))
  have s1 : S 3 (L 18446744073709551616) := S_L (by decide)
  unfold steelyardlaw05_wakes.f
  refine Ev.bind h1 (Ev.bind h2 (Ev.bind h3 (Ev.bind (Ten_to (n := 3) (by omega)) (Ev.ifp rfl ?_))))
  refine Ev.bind (keep_to s1 (by omega) (by rw [L_pos (by decide), L_two (by decide) (by decide)]; rfl)) (Ev.ifp rfl ?_)
  refine Ev.bind (Text_to s1 (by omega) (V_L _)) (Ev.ifp (toList_T ?_) ?_)
  · exact ((tx_of (l := ns ⟨#[49, 56, 52, 52, 54, 55, 52, 52, 48, 55, 51, 55, 48, 57, 53, 53, 49, 54, 49, 54]⟩) ((Dg_dec _).2 (by decide)) (.inr ⟨by decide, by decide⟩)).trans (congrArg tx (by decide +kernel))).symm
  refine Ev.bind (Text_to (m := 0) (n := 0) S_nil (by omega) rfl) (Ev.ifp (toList_T rfl) (Ev.ifn (by decide) (Ev.ifn (by decide) (Ev.ifp rfl ?_))))
  exact Ev.bind (keep_to (m := 1) (S_L (by decide)) (by omega) (by rw [L_one (by decide) (by decide)]; rfl)) (Ev.now _)
end Go.Proofs.YtijjnjdfdoaafaaDoor.Lib

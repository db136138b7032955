/- The order of whole numbers of at most 20 limbs goes with sums, and with products by what is above 0; text and back it is the same. -/
import Derived.Test.YtnilfndadahgaaaDoorMl
import Derived.Test.YtnilfndadahgaaaDoorPxlawWholeOrder
set_option linter.unusedVariables false
set_option linter.unusedSimpArgs false
namespace Go.Proofs.YtnilfndadahgaaaDoor.Pure
open Go.RowKit Go.Proofs.YtnilfndadahgaaaDoor.P Go.Proofs.YtnilfndadahgaaaDoorW.PrintWords Go.Proofs.YtnilfndadahgaaaDoorW.PrintMore Go.Proofs.YtnilfndadahgaaaDoor.Lib
theorem WholeOrder : steelyardlaw06_WholeOrder.Pure := by
  intro x a y b w c _ _ ha _ _ hb _ _ hc
  apply Ev.rounds
  have wk : Ev (fun k => steelyardlaw06_WholeOrder.j0 k true x a y b w c) true := Ev.succ (by simp only [steelyardlaw06_WholeOrder.j0]; exact Ev.ifp trivial (Ev.bind wakes6 (Ev.now _)))
  unfold steelyardlaw06_WholeOrder.f
  by_cases h1 : (a.length : Int) > 20
  · exact Ev.ifp h1 wk
  refine Ev.ifn h1 ?_
  by_cases h2 : (b.length : Int) > 20
  · exact Ev.ifp h2 wk
  refine Ev.ifn h2 ?_
  by_cases h3 : (c.length : Int) > 20
  · rw [decide_eq_true h3]; exact wk
  rw [decide_eq_false h3]
  have sa : S 20 a := S_of (wf_u32 ha) h1
  have sb : S 20 b := S_of (wf_u32 hb) h2
  have sc : S 20 c := S_of (wf_u32 hc) h3
  obtain ⟨X, hX⟩ : ∃ X, vz x a = X := ⟨_, rfl⟩
  obtain ⟨Y, hY⟩ : ∃ Y, vz y b = Y := ⟨_, rfl⟩
  obtain ⟨Z, hZ⟩ : ∃ Z, vz w c = Z := ⟨_, rfl⟩
  have bX : X.natAbs < Bp 20 := hX ▸ S_vz x sa
  have bY : Y.natAbs < Bp 20 := hY ▸ S_vz y sb
  have bZ : Z.natAbs < Bp 20 := hZ ▸ S_vz w sc
  have j1 : Ev (fun k => steelyardlaw06_WholeOrder.j1 k (cmpZ X Y) false x a y b w c) true := by
    refine Ev.succ ?_
    simp only [steelyardlaw06_WholeOrder.j1]
    refine Ev.ifn (by decide) (Ev.bind (wOf_to (by omega) (by omega)) (Ev.bind (wCmp_to (m := 20) (c := cmpZ Z 0) sc (S_cz (na_small (by decide) (by omega))) (by omega) (by rw [hZ, vz_cz])) ?_))
    refine Ev.bind (wMul_to (z := X * Z) sa sc (by omega) (by rw [hX, hZ])) (Ev.bind (wMul_to (z := Y * Z) sb sc (by omega) (by rw [hY, hZ])) ?_)
    refine Ev.bind (wCmp_to (m := 40) (c := cmpZ (X * Z) (Y * Z)) (S_cz (na_mul bX bZ (by omega))) (S_cz (na_mul bY bZ (by omega))) (by omega) (by rw [vz_cz, vz_cz])) (Ev.ifp (cmpZ_mul X Y Z) ?_)
    refine Ev.bind (wText_to sa (by omega) hX) (Ev.bind (wParse_TZ bX (by omega)) (Ev.ifp rfl ?_))
    exact Ev.bind (wTrim_to sa (by omega) hX) (Ev.bind (keepCz_to bX (by omega) rfl) (Ev.ifp rfl (Ev.bind wakes6 (Ev.now _))))
  refine Ev.succ ?_
  simp only [steelyardlaw06_WholeOrder.j0]
  refine Ev.ifn (by decide) (Ev.bind (wCmp_to (c := cmpZ X Y) sa sb (by omega) (by rw [hX, hY])) (Ev.bind (wCmp_to (c := cmpZ Y X) sb sa (by omega) (by rw [hX, hY])) (Ev.ifp (cmpZ_swap X Y) ?_)))
  refine Ev.bind (wAdd_to (z := X + Z) sa sc (by omega) (by rw [hX, hZ])) (Ev.bind (wAdd_to (z := Y + Z) sb sc (by omega) (by rw [hY, hZ])) ?_)
  refine Ev.bind (wCmp_to (m := 21) (c := cmpZ (X + Z) (Y + Z)) (S_cz (na_add bX bZ (by omega))) (S_cz (na_add bY bZ (by omega))) (by omega) (by rw [vz_cz, vz_cz])) (Ev.ifp (cmpZ_add X Y Z) ?_)
  refine Ev.bind (wNeg_to (z := -X) sa (by omega) (by rw [hX])) (Ev.bind (wNeg_to (z := -Y) sb (by omega) (by rw [hY])) ?_)
  refine Ev.bind (wCmp_to (m := 20) (c := cmpZ (-X) (-Y)) (S_cz (na_neg bX)) (S_cz (na_neg bY)) (by omega) (by rw [vz_cz, vz_cz])) ?_
  rw [cmpZ_neg X Y]
  simp only [bne_self_eq_false]
  exact j1
end Go.Proofs.YtnilfndadahgaaaDoor.Pure

/- Whole numbers of at most 20 limbs are a ring: sums and products both ways, in whatever brackets, a sum's product, the negative. -/
import Derived.Test.YtnilfndadahgaaaDoorMl
import Derived.Test.YtnilfndadahgaaaDoorPxlawWholeLaws
set_option linter.unusedVariables false
set_option linter.unusedSimpArgs false
namespace Go.Proofs.YtnilfndadahgaaaDoor.Pure
open Go.RowKit Go.Proofs.YtnilfndadahgaaaDoor.P Go.Proofs.YtnilfndadahgaaaDoorW.PrintWords Go.Proofs.YtnilfndadahgaaaDoorW.PrintMore Go.Proofs.YtnilfndadahgaaaDoor.Lib
theorem WholeLaws : steelyardlaw06_WholeLaws.Pure := by
  intro x a y b w c _ _ ha _ _ hb _ _ hc
  apply Ev.rounds
  have wk : Ev (fun k => steelyardlaw06_WholeLaws.j0 k true x a y b w c) true := Ev.succ (by simp only [steelyardlaw06_WholeLaws.j0]; exact Ev.ifp trivial (Ev.bind wakes6 (Ev.now _)))
  unfold steelyardlaw06_WholeLaws.f
  by_cases h1 : (a.length : Int) > 20
  · exact Ev.ifp h1 wk
  refine Ev.ifn h1 ?_
  by_cases h2 : (b.length : Int) > 20
  · exact Ev.ifp h2 wk
  refine Ev.ifn h2 ?_
  by_cases h3 : (c.length : Int) > 20
  · rw [decide_eq_true h3]; exact wk
  rw [decide_eq_false h3]
  have sa : S 20 a := S_of (wf_u32 ha) h1
  have sb : S 20 b := S_of (wf_u32 hb) h2
  have sc : S 20 c := S_of (wf_u32 hc) h3
  obtain ⟨X, hX⟩ : ∃ X, vz x a = X := ⟨_, rfl⟩
  obtain ⟨Y, hY⟩ : ∃ Y, vz y b = Y := ⟨_, rfl⟩
  obtain ⟨Z, hZ⟩ : ∃ Z, vz w c = Z := ⟨_, rfl⟩
  have bX : X.natAbs < Bp 20 := hX ▸ S_vz x sa
  have bY : Y.natAbs < Bp 20 := hY ▸ S_vz y sb
  have bZ : Z.natAbs < Bp 20 := hZ ▸ S_vz w sc
  have bXY : (X + Y).natAbs < Bp 21 := na_add bX bY (by omega)
  have bYZ : (Y + Z).natAbs < Bp 21 := na_add bY bZ (by omega)
  have mXY : (X * Y).natAbs < Bp 40 := na_mul bX bY (by omega)
  have mXZ : (X * Z).natAbs < Bp 41 := na_mul bX bZ (by omega)
  have mYZ : (Y * Z).natAbs < Bp 41 := na_mul bY bZ (by omega)
  have j1 : Ev (fun k => steelyardlaw06_WholeLaws.j1 k false x a y b w c (cz (X * Y)).1 (cz (X * Y)).2) true := by
    refine Ev.succ ?_
    simp only [steelyardlaw06_WholeLaws.j1]
    refine Ev.ifn (by decide) (Ev.bind (wAdd_to (z := X + Y) sa sb (by omega) (by rw [hX, hY])) (Ev.bind (wMul_to (z := (X + Y) * Z) (S_cz bXY) sc (by omega) (by rw [vz_cz, hZ])) ?_))
    refine Ev.bind (wMul_to (z := X * Z) sa sc (by omega) (by rw [hX, hZ])) (Ev.bind (wMul_to (z := Y * Z) sb sc (by omega) (by rw [hY, hZ])) (Ev.bind (wAdd_to (z := X * Z + Y * Z) (S_cz mXZ) (S_cz mYZ) (by omega) (by rw [vz_cz, vz_cz])) ?_))
    refine Ev.bind (keepCz_to (m := 41) (na_mul bXY bZ (by omega)) (by omega) (Int.add_mul _ _ _)) (Ev.ifp rfl (Ev.bind (wOf_to (by omega) (by omega)) ?_))
    refine Ev.bind (wNeg_to (z := -X) sa (by omega) (by rw [hX])) (Ev.bind (wAdd_to (z := X + -X) sa (S_cz (na_neg bX)) (by omega) (by rw [hX, vz_cz])) (Ev.bind (keepCz_to (m := 21) (na_add bX (na_neg bX) (by omega)) (by omega) (by omega)) (Ev.ifp rfl ?_)))
    refine Ev.bind (wNeg_to (z := -X) sa (by omega) (by rw [hX])) (Ev.bind (wNeg_to (z := - -X) (S_cz (na_neg bX)) (by omega) (by rw [vz_cz])) (Ev.bind (wTrim_to (z := X) sa (by omega) hX) (Ev.bind (keepCz_to (m := 20) (na_neg (na_neg bX)) (by omega) (by omega)) (Ev.ifp rfl ?_))))
    have b1 : (1 : Int).natAbs < Bp 2 := na_small (by decide) (by omega)
    refine Ev.bind (wOf_to (by omega) (by omega)) (Ev.bind (wMul_to (z := X * 1) sa (S_cz b1) (by omega) (by rw [hX, vz_cz])) (Ev.bind (wTrim_to (z := X) sa (by omega) hX) (Ev.bind (keepCz_to (m := 22) (na_mul bX b1 (by omega)) (by omega) (Int.mul_one X)) (Ev.ifp rfl ?_))))
    refine Ev.bind (wNeg_to (z := -X) sa (by omega) (by rw [hX])) (Ev.bind (wMul_to (z := -X * Y) (S_cz (na_neg bX)) sb (by omega) (by rw [vz_cz, hY])) (Ev.bind (wNeg_to (z := -(X * Y)) (S_cz mXY) (by omega) (by rw [vz_cz])) ?_))
    exact Ev.bind (keepCz_to (m := 40) (na_mul (na_neg bX) bY (by omega)) (by omega) (Int.neg_mul _ _)) (Ev.ifp rfl (Ev.bind wakes6 (Ev.now _)))
  refine Ev.succ ?_
  simp only [steelyardlaw06_WholeLaws.j0]
  refine Ev.ifn (by decide) (Ev.bind (wAdd_to (z := X + Y) sa sb (by omega) (by rw [hX, hY])) (Ev.bind (wMul_to (z := X * Y) sa sb (by omega) (by rw [hX, hY])) (Ev.bind (wAdd_to (z := Y + X) sb sa (by omega) (by rw [hX, hY])) (Ev.bind (keepCz_to bXY (by omega) (Int.add_comm _ _)) (Ev.ifp rfl ?_)))))
  refine Ev.bind (wMul_to (z := Y * X) sb sa (by omega) (by rw [hX, hY])) (Ev.bind (keepCz_to mXY (by omega) (Int.mul_comm _ _)) (Ev.ifp rfl ?_))
  refine Ev.bind (wAdd_to (z := X + Y + Z) (S_cz bXY) (sc.up (by omega)) (by omega) (by rw [vz_cz, hZ])) (Ev.bind (wAdd_to (z := Y + Z) sb sc (by omega) (by rw [hY, hZ])) (Ev.bind (wAdd_to (z := X + (Y + Z)) (sa.up (by omega)) (S_cz bYZ) (by omega) (by rw [vz_cz, hX])) ?_))
  refine Ev.bind (keepCz_to (m := 22) (na_add bXY (na_up bZ (by omega)) (by omega)) (by omega) (Int.add_assoc _ _ _)) (Ev.ifp rfl ?_)
  refine Ev.bind (wMul_to (z := X * Y * Z) (S_cz mXY) sc (by omega) (by rw [vz_cz, hZ])) (Ev.bind (wMul_to (z := Y * Z) sb sc (by omega) (by rw [hY, hZ])) (Ev.bind (wMul_to (z := X * (Y * Z)) sa (S_cz mYZ) (by omega) (by rw [vz_cz, hX])) ?_))
  exact Ev.bind (keepCz_to (m := 60) (na_mul mXY bZ (by omega)) (by omega) (Int.mul_assoc _ _ _)) j1
end Go.Proofs.YtnilfndadahgaaaDoor.Pure

/- Of any whole numbers of at most 60 limbs: sum, product, negative, which is greater, text; of any text of at most 500 bytes its number; of any that a machine has: what the reference says. -/
import Derived.Test.YtnilfndadahgaaaDoorMl
import Derived.Test.YtnilfndadahgaaaDoorPxlawWholeTells
set_option linter.unusedVariables false
set_option linter.unusedSimpArgs false
namespace Go.Proofs.YtnilfndadahgaaaDoor.Pure
open Go.RowKit Go.Proofs.YtnilfndadahgaaaDoor.P Go.Proofs.YtnilfndadahgaaaDoorW.PrintWords Go.Proofs.YtnilfndadahgaaaDoorW.PrintMore Go.Proofs.YtnilfndadahgaaaDoor.Lib
theorem WholeTells : steelyardlaw06_WholeTells.Pure := by
  intro x a y b v s _ _ ha _ _ hb hv _
  apply Ev.rounds
  have bv := bounds_i64 hv
  have wk : Ev (fun k => steelyardlaw06_WholeTells.j0 k true x a y b v s) true := Ev.succ (by simp only [steelyardlaw06_WholeTells.j0]; exact Ev.ifp trivial (Ev.bind wakes6 (Ev.now _)))
  unfold steelyardlaw06_WholeTells.f
  simp only [steelyardlaw06_Long.f, Option.bind_some, decide_eq_true_eq]
  by_cases h1 : (a.length : Int) > 60
  · exact Ev.ifp h1 wk
  refine Ev.ifn h1 ?_
  by_cases h2 : (b.length : Int) > 60
  · exact Ev.ifp h2 wk
  refine Ev.ifn h2 ?_
  by_cases h3 : (s.size : Int) > 500
  · rw [decide_eq_true h3]; exact wk
  rw [decide_eq_false h3]
  have sa : S 60 a := S_of (wf_u32 ha) h1
  have sb : S 60 b := S_of (wf_u32 hb) h2
  have la := sa.2
  have lb := sb.2
  obtain ⟨R, hp, hr, sR⟩ := digits_both (rs s)
  have sQ := S_pz (x := sg s) sR
  refine Ev.succ ?_
  simp only [steelyardlaw06_WholeTells.j0, OwnInt_spec (show a.length ≤ 1000000 by omega), OwnInt_spec (show b.length ≤ 1000000 by omega), Option.bind_some]
  refine Ev.ifn (by decide) (Ev.bind (wParse_ev hp sR (by omega)) (Ev.bind (rParse_ev hr sR (by omega)) ?_))
  have bAdd : (vz x a + vz y b).natAbs < Bp 61 := Nat.lt_of_le_of_lt (Int.natAbs_add_le _ _) (lt_add (S_vz x sa) (S_vz y sb) (by omega))
  have bMul : (vz x a * vz y b).natAbs < Bp 120 := by rw [Int.natAbs_mul]; exact lt_mul (S_vz x sa) (S_vz y sb) (by omega)
  have bNeg : (-vz x a).natAbs < Bp 60 := by rw [Int.natAbs_neg]; exact S_vz x sa
  refine Ev.bind (wAdd_to sa sb (by omega) rfl) (Ev.bind (rZAdd_to sa sb (by omega) rfl) (Ev.bind (keepCz_to bAdd (by omega) rfl) (Ev.ifp rfl ?_)))
  refine Ev.bind (wMul_to sa sb (by omega) rfl) (Ev.bind (rZMul_to sa sb (by omega) rfl) (Ev.bind (keepCz_to bMul (by omega) rfl) (Ev.ifp rfl ?_)))
  refine Ev.bind (wNeg_to sa (by omega) rfl) (Ev.bind (rNeg_to sa (by omega) rfl) (Ev.bind (keepCz_to bNeg (by omega) rfl) (Ev.ifp rfl ?_)))
  refine Ev.bind (wCmp_to sa sb (by omega) rfl) (Ev.bind (rZCmp_to sa sb (by omega) rfl) (Ev.ifp rfl ?_))
  refine Ev.bind (wText_to sa (by omega) rfl) (Ev.bind (rZText_to sa (by omega) rfl) (Ev.ifp rfl ?_))
  refine Ev.bind (wTrim_to sa (by omega) rfl) (Ev.bind (rZTrim_to sa (by omega) rfl) (Ev.bind (keepCz_to (S_vz x sa) (by omega) rfl) (Ev.ifp rfl ?_)))
  refine Ev.bind (keepInt_to sQ (by omega) rfl) (Ev.ifp rfl (Ev.ifp (by simp) ?_))
  have b2 : v.natAbs < Bp 2 := lt_num (by omega) (by omega)
  refine Ev.bind (wOf_to (by omega) (by omega)) (Ev.bind (rZOf_to (by omega) (by omega)) (Ev.bind (keepCz_to b2 (by omega) rfl) (Ev.ifp rfl ?_)))
  exact Ev.bind (keepInt_to sa (by omega) rfl) (Ev.ifp rfl (Ev.bind (keepInt_to sb (by omega) rfl) (Ev.ifp rfl (Ev.bind wakes6 (Ev.now _)))))
end Go.Proofs.YtnilfndadahgaaaDoor.Pure

/- Of any numbers of at most 300 limbs (3000 limbs of product): the product, the product by a limb, moved by any number of bits, and any power are what the reference says; longer numbers are let by. -/
import Derived.Test.YthcnnkajnmnloaaLibW1
import Derived.Test.YthcnnkajnmnloaaLibE
import Derived.Test.YthcnnkajnmnloaaPxlawMulTells
set_option linter.unusedVariables false
set_option linter.unusedSimpArgs false
namespace Go.Proofs.Ythcnnkajnmnloaa.Pure
open Go.RowKit Go.Proofs.Ythcnnkajnmnloaa.P Go.Proofs.YthcnnkajnmnloaaW.PrintWords Go.Proofs.YthcnnkajnmnloaaW.PrintMore Go.Proofs.Ythcnnkajnmnloaa.Lib
theorem MulTells : steelyardlaw02_MulTells.Pure := by
  intro a b x y z _ _ ha _ _ hb hx hy hz
  apply Ev.rounds
  have by_ := bounds_i64 hy
  have bz := bounds_i64 hz
  have wk : Ev (fun k => steelyardlaw02_MulTells.j0 k a b true x y z) true := Ev.succ (by simp only [steelyardlaw02_MulTells.j0]; exact Ev.ifp trivial (Ev.bind wakes2 (Ev.now _)))
  unfold steelyardlaw02_MulTells.f
  simp only [long_spec, Option.bind_some]
  by_cases h1 : (a.length : Int) > 300
  · exact Ev.ifp (decide_eq_true h1) wk
  refine Ev.ifn (by simpa using h1) ?_
  by_cases h2 : (b.length : Int) > 300
  · exact Ev.ifp (decide_eq_true h2) wk
  refine Ev.ifn (by simpa using h2) ?_
  by_cases h3 : wrap64 ((a.length : Int) * (b.length : Int)) > 3000
  · rw [decide_eq_true h3]; exact wk
  rw [decide_eq_false h3]
  have sa : S 300 a := S_of (wf_u32 ha) h1
  have sb : S 300 b := S_of (wf_u32 hb) h2
  have la := sa.2
  have lb := sb.2
  obtain ⟨r, hr⟩ : ∃ r, (if y < 0 then ([], false) else powR (V a) y.toNat) = r := ⟨_, rfl⟩
  have sr : S 256 r.1 := by
    rw [← hr]
    split
    · exact S_nil
    · unfold powR
      split
      · rename_i _ h
        exact S_L h
      · exact S_nil
  have p1 := Pow_spec sa.1 (by omega) (n := y) (by omega) (by omega)
  have p2 := rPow_spec sa (by omega) (v := y) (by omega) (by omega)
  rw [hr] at p1 p2
  have bs : shf (V a) z < Bp 600 := by
    unfold shf
    split
    · exact lt_mul sa.v (two_lt (m := 300) (by omega)) (by omega)
    · split
      · exact Bp_pos
      · exact lt_up (lt_le sa.v (Nat.div_le_self _ _)) (by omega)
  refine Ev.succ ?_
  simp only [steelyardlaw02_MulTells.j0, OwnNat_spec (show a.length ≤ 1000000 by omega), OwnNat_spec (show b.length ≤ 1000000 by omega), Option.bind_some]
  refine Ev.ifn (by decide) (Ev.bind p1 (Ev.bind p2 ?_))
  refine Ev.bind (Mul_to sa sb (by omega) rfl) (Ev.bind (rMul_to sa sb (by omega) rfl) (Ev.bind (keep_to (m := 600) (S_L (lt_mul sa.v sb.v (by omega))) (by omega) rfl) (Ev.ifp rfl ?_)))
  have hx0 : 0 ≤ x % 4294967296 := by omega
  have hx1 : x % 4294967296 < 4294967296 := by omega
  refine Ev.bind (Small_to sa (by omega) hx0 hx1 rfl) (Ev.bind (rSmall_to sa (by omega) hx0 hx1 rfl) (Ev.bind (keep_to (m := 302) (S_L (lt_mul sa.v (lt_num (m := 2) (by omega) (by omega)) (by omega))) (by omega) rfl) (Ev.ifp rfl ?_)))
  refine Ev.bind (Shift_to sa (by omega) (by omega) (by omega) rfl) (Ev.bind (rShift_to sa (by omega) (by omega) (by omega) rfl) (Ev.bind (keep_to (S_L bs) (by omega) rfl) (Ev.ifp rfl ?_)))
  refine Ev.bind (keep_to sr (by omega) rfl) (Ev.ifp rfl (Ev.ifp (by simp) ?_))
  exact Ev.bind (keep_to sa (by omega) rfl) (Ev.ifp rfl (Ev.bind (keep_to sb (by omega) rfl) (Ev.ifp rfl (Ev.bind wakes2 (Ev.now _)))))
end Go.Proofs.Ythcnnkajnmnloaa.Pure

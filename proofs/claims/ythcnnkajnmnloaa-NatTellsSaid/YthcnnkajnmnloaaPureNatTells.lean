/- Of any numbers of at most 300 limbs: which is greater, their sum and difference, bits and trimmed form, and the number of any machine word are what the reference says; longer numbers are let by. -/
import Derived.Test.YthcnnkajnmnloaaLibW1
import Derived.Test.YthcnnkajnmnloaaLibD
import Derived.Test.YthcnnkajnmnloaaPxlawNatTells
set_option linter.unusedVariables false
set_option linter.unusedSimpArgs false
namespace Go.Proofs.Ythcnnkajnmnloaa.Pure
open Go.RowKit Go.Proofs.Ythcnnkajnmnloaa.P Go.Proofs.YthcnnkajnmnloaaW.PrintWords Go.Proofs.YthcnnkajnmnloaaW.PrintMore Go.Proofs.Ythcnnkajnmnloaa.Lib
theorem NatTells : steelyardlaw01_NatTells.Pure := by
  intro a b x y _ _ ha _ _ hb hx hy
  apply Ev.rounds
  have bx := bounds_u64 hx
  have by_ := bounds_u64 hy
  have wk : Ev (fun k => steelyardlaw01_NatTells.j0 k a b true x y) true := Ev.succ (by simp only [steelyardlaw01_NatTells.j0]; exact Ev.ifp trivial (Ev.bind wakes1 (Ev.now _)))
  unfold steelyardlaw01_NatTells.f
  simp only [long_spec, Option.bind_some]
  by_cases h1 : (a.length : Int) > 300
  · exact Ev.ifp (decide_eq_true h1) wk
  refine Ev.ifn (by simpa using h1) ?_
  by_cases h2 : (b.length : Int) > 300
  · rw [decide_eq_true h2]; exact wk
  rw [decide_eq_false h2]
  have sa : S 300 a := S_of (wf_u32 ha) h1
  have sb : S 300 b := S_of (wf_u32 hb) h2
  have s1 : S 301 (L (V a + V b)) := S_L (lt_add sa.v sb.v (by omega))
  have sA : S 300 (L (V a)) := S_L sa.v
  have la := sa.2
  have lb := sb.2
  obtain ⟨c, hc⟩ : ∃ c, cmpI (V a) (V b) = c := ⟨_, rfl⟩
  have rc := cmpI_range (V a) (V b)
  rw [hc] at rc
  have j1 : ∀ (s : List Int) (ok : Bool), S 300 s → ok = decide (c ≥ 0) → Ev (fun k => steelyardlaw01_NatTells.j1 k a b a b s ok c s x y) true := by
    intro s ok ss hok
    refine Ev.succ ?_
    simp only [steelyardlaw01_NatTells.j1]
    rw [Int.tmod_eq_emod_of_nonneg (a := y) (by omega)]
    obtain ⟨i, hi⟩ := Int.eq_ofNat_of_zero_le (show 0 ≤ y % 20000 by omega)
    rw [hi, w64 (x := (i : Int)) (by omega) (by omega), w64 (x := -1 - (i : Int)) (by omega) (by omega), Bit_to sa (by omega) rfl i (by omega), rBit_to sa rfl i (by omega), Bit_neg (by omega)]
    simp only [Option.bind_some]
    refine Ev.bind (Cmp_to sa sb (by omega) hc) (Ev.ifp rfl ?_)
    refine Ev.bind (Add_to sa sb (by omega) rfl) (Ev.bind (rAdd_to sa sb (by omega) rfl) (Ev.bind (keep_to s1 (by omega) rfl) (Ev.ifp rfl ?_)))
    refine Ev.ifp (by rw [hok]; simp) (Ev.bind (keep_to ss (by omega) rfl) (Ev.ifp rfl ?_))
    refine Ev.bind (Bits_to sa (by omega) rfl) (Ev.bind (rBits_to sa (by omega) rfl) (Ev.ifp rfl (Ev.ifp (by simp) (Ev.ifn (by decide) ?_))))
    refine Ev.bind (Trim_to sa (by omega) rfl) (Ev.bind (rTrim_to sa (by omega) rfl) (Ev.bind (keep_to sA (by omega) rfl) (Ev.ifp rfl ?_)))
    refine Ev.bind (Of_to (by omega) (by omega) rfl) (Ev.bind (rOf_to (by omega) (by omega) rfl) (Ev.bind (keep_to (m := 2) (S_L (lt_num (by omega) (by omega))) (by omega) rfl) (Ev.ifp rfl ?_)))
    exact Ev.bind (keep_to sa (by omega) rfl) (Ev.ifp rfl (Ev.bind (keep_to sb (by omega) rfl) (Ev.ifp rfl (Ev.bind wakes1 (Ev.now _)))))
  refine Ev.succ ?_
  simp only [steelyardlaw01_NatTells.j0, OwnNat_spec (show a.length ≤ 1000000 by omega), OwnNat_spec (show b.length ≤ 1000000 by omega), Option.bind_some]
  refine Ev.ifn (by decide) ?_
  by_cases h : V a < V b
  · refine Ev.bind (Sub_no sa sb (by omega) h) (Ev.bind (rCmp_to sa sb (by omega) hc) (Ev.ifn (by omega) ?_))
    exact j1 [] false S_nil (by rw [decide_eq_false (by omega)])
  · refine Ev.bind (Sub_to sa sb (by omega) (n := V a - V b) (by omega)) (Ev.bind (rCmp_to sa sb (by omega) hc) (Ev.ifp (by omega) (Ev.bind (rSub_to sa sb (by omega) (n := V a - V b) (by omega)) ?_)))
    exact j1 _ true (S_L (lt_le sa.v (Nat.sub_le _ _))) (by rw [decide_eq_true (by omega)])
end Go.Proofs.Ythcnnkajnmnloaa.Pure

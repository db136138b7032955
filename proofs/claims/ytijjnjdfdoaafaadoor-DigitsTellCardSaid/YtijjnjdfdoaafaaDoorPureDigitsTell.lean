/- The digits of any number of at most 60 limbs, the number of any text of at most 2100 bytes, any power of ten, or that there is none: what the reference says. -/
import Derived.Test.YtijjnjdfdoaafaaDoorLibW5
import Derived.Test.YtijjnjdfdoaafaaDoorLibI
import Derived.Test.YtijjnjdfdoaafaaDoorLibO
import Derived.Test.YtijjnjdfdoaafaaDoorPxlawDigitsTell
set_option linter.unusedVariables false
set_option linter.unusedSimpArgs false
namespace Go.Proofs.YtijjnjdfdoaafaaDoor.Pure
open Go.RowKit Go.Proofs.YtijjnjdfdoaafaaDoor.P Go.Proofs.YtijjnjdfdoaafaaDoorW.PrintWords Go.Proofs.YtijjnjdfdoaafaaDoorW.PrintMore Go.Proofs.YtijjnjdfdoaafaaDoor.Lib
theorem DigitsTell : steelyardlaw05_DigitsTell.Pure := by
  intro a s v _ _ ha _ hv
  apply Ev.rounds
  have bv := bounds_i64 hv
  have wk : Ev (fun k => steelyardlaw05_DigitsTell.j0 k a s v true) true := Ev.succ (by simp only [steelyardlaw05_DigitsTell.j0]; exact Ev.ifp trivial (Ev.bind wakes5 (Ev.now _)))
  unfold steelyardlaw05_DigitsTell.f
  by_cases h1 : (a.length : Int) > 60
  · exact Ev.ifp h1 wk
  refine Ev.ifn h1 ?_
  by_cases h2 : (s.size : Int) > 2100
  · rw [decide_eq_true h2]; exact wk
  rw [decide_eq_false h2]
  have sa : S 60 a := S_of (wf_u32 ha) h1
  have la := sa.2
  obtain ⟨R, hp, hr, sR⟩ : ∃ R : List Int × Bool, Ev (fun k => digits_Parse.f k s) R ∧ Ev (fun k => steelyardref05_Parse.f k s) R ∧ S 251 R.1 := by
    by_cases c : 0 < (ns s).length ∧ (ns s).length ≤ 2000 ∧ Dg (ns s)
    · obtain ⟨c1, c2, c3⟩ := c
      exact ⟨_, Parse_to c1 c2 c3 rfl, rParse_to c1 c2 c3 rfl, S_L (Nat.lt_trans (pv_lt c3) (ten_Bp (m := 250) (by omega)))⟩
    · have c2 : (ns s).length = 0 ∨ 2000 < (ns s).length ∨ ¬ Dg (ns s) := by
        by_cases z1 : (ns s).length = 0
        · exact .inl z1
        · by_cases z2 : 2000 < (ns s).length
          · exact .inr (.inl z2)
          · exact .inr (.inr fun z3 => c ⟨by omega, by omega, z3⟩)
      exact ⟨_, Parse_no c2, rParse_no c2, S_nil⟩
  have j1 : Ev (fun k => steelyardlaw05_DigitsTell.j1 k a a R.1 R.2 false R.1 R.2) true := by
    refine Ev.succ ?_
    simp only [steelyardlaw05_DigitsTell.j1]
    refine Ev.ifn (by decide) (Ev.bind (Text_to sa (by omega) rfl) (Ev.bind (rText_to sa (by omega) rfl) (Ev.ifp rfl ?_)))
    exact Ev.bind (keep_to sR (by omega) rfl) (Ev.ifp rfl (Ev.ifp (by simp) (Ev.bind (keep_to sa (by omega) rfl) (Ev.ifp rfl (Ev.bind wakes5 (Ev.now _))))))
  refine Ev.succ ?_
  simp only [steelyardlaw05_DigitsTell.j0, OwnNat_spec (show a.length ≤ 1000000 by omega), Option.bind_some]
  refine Ev.ifn (by decide) (Ev.bind hp (Ev.bind hr ?_))
  by_cases n0 : v < 0
  · refine Ev.bind (Ten_no (.inl n0)) (Ev.ifn (by omega) (Ev.ifn (by decide) (Ev.ifn (by decide) (Ev.ifp rfl j1))))
  · by_cases n1 : v > 2000
    · refine Ev.bind (Ten_no (.inr n1)) (Ev.ifp (by omega) (Ev.ifn ?_ (Ev.ifn (by decide) (Ev.ifp rfl j1))))
      rw [decide_eq_false (show ¬ v ≤ 2000 by omega)]; decide
    · obtain ⟨n, rfl⟩ := Int.eq_ofNat_of_zero_le (show 0 ≤ v by omega)
      refine Ev.bind (Ten_to (by omega)) (Ev.ifp (by omega) (Ev.ifn ?_ (Ev.ifp rfl ?_)))
      · rw [decide_eq_true (show (n : Int) ≤ 2000 by omega)]; exact (show ¬ (true != true) = true by decide)
      by_cases n6 : (n : Int) ≤ 600
      · refine Ev.ifp n6 (Ev.bind (rTen_to (by omega)) (Ev.bind (keep_to (S_L (ten_Bp (m := 250) (j := n) (by omega))) (by omega) rfl) j1))
      · exact Ev.ifn n6 j1
end Go.Proofs.YtijjnjdfdoaafaaDoor.Pure

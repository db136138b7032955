/- The text downwards of the opposite number is the opposite of the text upwards; the nearest one of it is the opposite of the nearest one. -/
import Derived.Test.YtjgmmaeafodpmaaGreatDoorMm
import Derived.Test.YtjgmmaeafodpmaaGreatDoorPxlawDecimalNegs
set_option linter.unusedVariables false
set_option linter.unusedSimpArgs false
namespace Go.Proofs.YtjgmmaeafodpmaaGreatDoor.Pure
open Go.RowKit Go.Proofs.YtjgmmaeafodpmaaGreatDoor.P Go.Proofs.YtjgmmaeafodpmaaGreatDoorW.PrintWords Go.Proofs.YtjgmmaeafodpmaaGreatDoorW.PrintMore Go.Proofs.YtjgmmaeafodpmaaGreatDoor.Lib
theorem DecimalNegs : steelyardlaw10_DecimalNegs.Pure := by
  intro x a b v _ la wa _ lb wb hv
  apply Ev.rounds
  have jt : Ev (fun k => steelyardlaw10_DecimalNegs.j0 k v true x a b) true := Ev.succ (by simp only [steelyardlaw10_DecimalNegs.j0]; exact Ev.ifp trivial (Ev.bind wakes10 (Ev.now _)))
  obtain ⟨p, hp, hpe⟩ := tmod20 hv
  unfold steelyardlaw10_DecimalNegs.f
  rcases good20 (x := x) wa wb la lb with hg | ⟨hg, q, hq, rfl, rfl, rfl⟩
  · exact Ev.bind hg (Ev.ifn (by decide) jt)
  refine Ev.bind hg (Ev.ifp rfl ?_)
  by_cases l1 : ((cz q.num).2.length : Int) > 20
  · exact Ev.ifp l1 jt
  refine Ev.ifn l1 ?_
  by_cases l2 : ((L q.den).length : Int) > 20
  · rw [decide_eq_true l2]; exact jt
  rw [decide_eq_false l2]
  obtain ⟨h1, h2⟩ := len20 hq l1 l2
  have hp60 : p ≤ 60 := by omega
  have hn := Qs_neg hq
  obtain ⟨f1, f2, f3⟩ := fl_ltm (p := p) h1 (by omega) hp60
  obtain ⟨g1, g2, g3⟩ := fl_ltm (q := -q) (p := p) (m := 20) (by rw [Rat.neg_num, Int.natAbs_neg]; exact h1) (by omega) hp60
  refine Ev.succ ?_
  simp only [steelyardlaw10_DecimalNegs.j0]
  rw [hpe]
  refine Ev.ifn (by decide) (Ev.bind (qNeg_to hq) (Ev.bind (Down_to hn hp60) (Ev.bind (Up_to' hq hp60) (Ev.bind (Near_to hq hp60) (Ev.bind (Near_to hn hp60) (Ev.ifp rfl (Ev.ifp rfl (Ev.ifp rfl ?_))))))))
  refine Ev.succ ?_
  simp only [steelyardlaw10_DecimalNegs.j1]
  have n1 := numq_to (z := fl (-q) p) (lt_up g1 (by omega)) hp60
  have n2 := numq_to (z := ce q p) (lt_up f2 (by omega)) hp60
  have n3 := numq_to (z := nr q p) (lt_up f3 (by omega)) hp60
  have n4 := numq_to (z := nr (-q) p) (lt_up g3 (by omega)) hp60
  have q1 := Qs_ten (z := fl (-q) p) (lt_up g1 (by omega)) hp60
  have q2 := Qs_ten (z := ce q p) (lt_up f2 (by omega)) hp60
  have q3 := Qs_ten (z := nr q p) (lt_up f3 (by omega)) hp60
  have q4 := Qs_ten (z := nr (-q) p) (lt_up g3 (by omega)) hp60
  refine Ev.ifn (by decide) (Ev.bind n1 (Ev.bind n2 (Ev.bind n3 (Ev.bind n4 (Ev.ifp rfl (Ev.ifp rfl (Ev.ifp rfl (Ev.ifp rfl ?_))))))))
  refine Ev.bind (qNeg_to q2) (Ev.bind (keepQ_to q1 (by rw [(fl_neg q p).1, Rat.neg_mkRat])) (Ev.ifp rfl ?_))
  exact Ev.bind (qNeg_to q4) (Ev.bind (keepQ_to q3 (by rw [nr_neg, Rat.neg_mkRat, Int.neg_neg])) (Ev.ifp rfl (Ev.bind wakes10 (Ev.now _))))
end Go.Proofs.YtjgmmaeafodpmaaGreatDoor.Pure

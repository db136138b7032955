/- Of a greater number what is told, down, up, or to the nearest, is not less. -/
import Derived.Test.YtjgmmaeafodpmaaGreatDoorMm
import Derived.Test.YtjgmmaeafodpmaaGreatDoorPxlawDecimalOrder
set_option linter.unusedVariables false
set_option linter.unusedSimpArgs false
namespace Go.Proofs.YtjgmmaeafodpmaaGreatDoor.Pure
open Go.RowKit Go.Proofs.YtjgmmaeafodpmaaGreatDoor.P Go.Proofs.YtjgmmaeafodpmaaGreatDoorW.PrintWords Go.Proofs.YtjgmmaeafodpmaaGreatDoorW.PrintMore Go.Proofs.YtjgmmaeafodpmaaGreatDoor.Lib
theorem DecimalOrder : steelyardlaw10_DecimalOrder.Pure := by
  intro x a b y c d v _ la wa _ lb wb _ lc wc _ ld wd hv
  apply Ev.rounds
  have jt : Ev (fun k => steelyardlaw10_DecimalOrder.j0 k v true x a b y c d) true := Ev.succ (by simp only [steelyardlaw10_DecimalOrder.j0]; exact Ev.ifp trivial (Ev.bind wakes10 (Ev.now _)))
  obtain ⟨p, hp, hpe⟩ := tmod20 hv
  have hp1 : p ≤ 60 := by omega
  have bel : ∀ {z w : Int}, z.natAbs < Bp 60 → w.natAbs < Bp 60 → z ≤ w → Ev (fun k => steelyardlaw10_below.f k (PT z p) (PT w p) (p : Int)) true := by
    intro z w hz hw h
    unfold steelyardlaw10_below.f
    refine Ev.bind (numq60 hz hp1) (Ev.bind (numq60 hw hp1) (Ev.ifp rfl (Ev.ifp rfl (Ev.bind (qCmp_to (Qs60 hz hp1) (Qs60 hw hp1)) (Ev.const ?_)))))
    rw [decide_eq_true (cmpQ_le (mk_leZ h p))]
  have core : ∀ {q r : Rat}, Qs q → Qs r → q.num.natAbs < Bp 40 → r.num.natAbs < Bp 40 → q ≤ r → Ev (fun k => steelyardlaw10_DecimalOrder.j1 k (p : Int) (cz q.num).1 (cz q.num).2 (L q.den) (cz r.num).1 (cz r.num).2 (L r.den)) true := by
    intro q r hq hr h0 h1 h
    obtain ⟨f1, f2, f3⟩ := fl_ltm h0 (by omega) hp1
    obtain ⟨g1, g2, g3⟩ := fl_ltm h1 (by omega) hp1
    refine Ev.succ ?_
    simp only [steelyardlaw10_DecimalOrder.j1]
    refine Ev.bind (Down_to hq hp1) (Ev.bind (Down_to hr hp1) (Ev.bind (Up_to' hq hp1) (Ev.bind (Up_to' hr hp1) (Ev.bind (Near_to hq hp1) (Ev.bind (Near_to hr hp1) ?_)))))
    refine Ev.ifp rfl (Ev.ifp rfl (Ev.ifp rfl (Ev.ifp rfl (Ev.ifp rfl ?_))))
    rw [bne_self_eq_false]
    refine Ev.succ ?_
    simp only [steelyardlaw10_DecimalOrder.j2]
    refine Ev.ifn (by decide) (Ev.bind (bel (lt_up f1 (by omega)) (lt_up g1 (by omega)) (fl_mono h p)) (Ev.ifp rfl ?_))
    refine Ev.bind (bel (lt_up f2 (by omega)) (lt_up g2 (by omega)) (ce_mono h p)) (Ev.ifp rfl ?_)
    exact Ev.bind (bel (lt_up f3 (by omega)) (lt_up g3 (by omega)) (nr_mono h p)) (Ev.ifp rfl (Ev.bind wakes10 (Ev.now _)))
  unfold steelyardlaw10_DecimalOrder.f
  rcases good20 (x := x) wa wb la lb with hg | ⟨hg, q, hq, rfl, rfl, rfl⟩
  · exact Ev.bind hg (Ev.ifn (by decide) jt)
  refine Ev.bind hg (Ev.ifp rfl ?_)
  rcases good20 (x := y) wc wd lc ld with hk | ⟨hk, r, hr, rfl, rfl, rfl⟩
  · exact Ev.bind hk (Ev.ifn (by decide) jt)
  refine Ev.bind hk (Ev.ifp rfl ?_)
  have s1 := (Qs_a hq).2
  have s2 := (Qs_b hq).2
  have s3 := (Qs_a hr).2
  have s4 := (Qs_b hr).2
  rw [w64 (x := ((cz q.num).2.length : Int) + ((cz r.num).2.length : Int)) (by omega) (by omega),
    w64 (x := ((cz q.num).2.length : Int) + ((cz r.num).2.length : Int) + ((L q.den).length : Int)) (by omega) (by omega),
    w64 (x := ((cz q.num).2.length : Int) + ((cz r.num).2.length : Int) + ((L q.den).length : Int) + ((L r.den).length : Int)) (by omega) (by omega)]
  by_cases l : ((cz q.num).2.length : Int) + ((cz r.num).2.length : Int) + ((L q.den).length : Int) + ((L r.den).length : Int) > 40
  · rw [decide_eq_true l]; exact jt
  rw [decide_eq_false l]
  have h0 : q.num.natAbs < Bp 40 := Classical.not_not.1 fun e => by have := (@len_gt q.num.natAbs 40).2 e; rw [← cz2] at this; omega
  have h1 : r.num.natAbs < Bp 40 := Classical.not_not.1 fun e => by have := (@len_gt r.num.natAbs 40).2 e; rw [← cz2] at this; omega
  refine Ev.succ ?_
  simp only [steelyardlaw10_DecimalOrder.j0]
  rw [hpe]
  refine Ev.ifn (by decide) (Ev.bind (qCmp_to hq hr) ?_)
  rcases cmpQ_cases q r with ⟨h, e⟩ | ⟨h, e⟩ | ⟨h, e⟩
  · exact Ev.ifn (by omega) (core hq hr h0 h1 (Rat.le_of_lt h))
  · exact Ev.ifn (by omega) (core hq hr h0 h1 (h ▸ Rat.le_refl))
  · exact Ev.ifp (by omega) (core hr hq h1 h0 (Rat.le_of_lt h))
end Go.Proofs.YtjgmmaeafodpmaaGreatDoor.Pure

/- The exact text of a rational number is read as that number again; two of them have the same text if and only if they are the same. -/
import Derived.Test.YtjgmmaeafodpmaaGreatDoorMm
import Derived.Test.YtjgmmaeafodpmaaGreatDoorPxlawDecimalBack
set_option linter.unusedVariables false
set_option linter.unusedSimpArgs false
namespace Go.Proofs.YtjgmmaeafodpmaaGreatDoor.Pure
open Go.RowKit Go.Proofs.YtjgmmaeafodpmaaGreatDoor.P Go.Proofs.YtjgmmaeafodpmaaGreatDoorW.PrintWords Go.Proofs.YtjgmmaeafodpmaaGreatDoorW.PrintMore Go.Proofs.YtjgmmaeafodpmaaGreatDoor.Lib
theorem DecimalBack : steelyardlaw10_DecimalBack.Pure := by
  intro x a b y c d _ _ wa _ _ wb _ _ wc _ _ wd
  apply Ev.rounds
  have jt : Ev (fun k => steelyardlaw10_DecimalBack.j0 k true x a b y c d) true := Ev.succ (by simp only [steelyardlaw10_DecimalBack.j0]; exact Ev.ifp trivial (Ev.bind wakes10 (Ev.now _)))
  unfold steelyardlaw10_DecimalBack.f
  rw [Long_to, Long_to]
  simp only [Option.bind_some]
  by_cases h1 : a.length > 70 ∨ b.length > 70
  · exact Ev.ifp (decide_eq_true h1) jt
  by_cases h2 : c.length > 70 ∨ d.length > 70
  · exact Ev.ifn (by rw [decide_eq_false h1]; decide) (Ev.ifp (decide_eq_true h2) jt)
  refine Ev.ifn (by rw [decide_eq_false h1]; decide) (Ev.ifn (by rw [decide_eq_false h2]; decide) ?_)
  have sa : S 70 a := ⟨wf_u32 wa, by omega⟩
  have sb : S 70 b := ⟨wf_u32 wb, by omega⟩
  have sc : S 70 c := ⟨wf_u32 wc, by omega⟩
  have sd : S 70 d := ⟨wf_u32 wd, by omega⟩
  refine Ev.bind (rGood_ev sa sb (by omega)) ?_
  by_cases g1 : gq x a b = true
  · refine Ev.ifp g1 (Ev.bind (rGood_ev sc sd (by omega)) ?_)
    by_cases g2 : gq y c d = true
    · rw [g2]
      obtain ⟨q, hq, rfl, rfl, rfl⟩ := gq_spec g1
      obtain ⟨r, hr, rfl, rfl, rfl⟩ := gq_spec g2
      refine Ev.succ ?_
      simp only [steelyardlaw10_DecimalBack.j0]
      refine Ev.ifn (by decide) (Ev.bind (dExact_to hq) (Ev.bind (dExact_to hr) (Ev.bind (dParse_EX hq) (Ev.ifp rfl (Ev.bind (keepQ_to hq rfl) (Ev.ifp rfl (Ev.bind (keepQ_iff hq hr) (Ev.ifp ?_ (Ev.bind wakes10 (Ev.now _))))))))))
      rw [beq_iff_eq, Bool.eq_iff_iff, beq_iff_eq, decide_eq_true_eq, toList_iff]
      exact ⟨fun e => EX_inj hq hr e, fun e => by rw [e]⟩
    · rw [Bool.not_eq_true] at g2
      rw [g2]; exact jt
  · exact Ev.ifn g1 jt
end Go.Proofs.YtjgmmaeafodpmaaGreatDoor.Pure

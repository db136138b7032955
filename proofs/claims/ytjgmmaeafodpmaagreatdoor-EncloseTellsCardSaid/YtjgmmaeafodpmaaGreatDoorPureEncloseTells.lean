/- Package enclose and the reference tell the same bounds of any number's root, the same texts or the same error. -/
import Derived.Test.YtjgmmaeafodpmaaGreatDoorMm
import Derived.Test.YtjgmmaeafodpmaaGreatDoorPxlawEncloseTells
set_option linter.unusedVariables false
set_option linter.unusedSimpArgs false
namespace Go.Proofs.YtjgmmaeafodpmaaGreatDoor.Pure
open Go.RowKit Go.Proofs.YtjgmmaeafodpmaaGreatDoor.P Go.Proofs.YtjgmmaeafodpmaaGreatDoorW.PrintWords Go.Proofs.YtjgmmaeafodpmaaGreatDoorW.PrintMore Go.Proofs.YtjgmmaeafodpmaaGreatDoor.Lib
theorem EncloseTells : steelyardlaw25_EncloseTells.Pure := by
  intro x a b v _ _ wa _ _ wb _
  apply Ev.rounds
  have jt : Ev (fun k => steelyardlaw25_EncloseTells.j0 k v true x a b) true := Ev.succ (by simp only [steelyardlaw25_EncloseTells.j0]; exact Ev.ifp trivial (Ev.bind wakes25 (Ev.now _)))
  unfold steelyardlaw25_EncloseTells.f
  by_cases h1 : (a.length : Int) > 30
  · exact Ev.ifp h1 jt
  refine Ev.ifn h1 ?_
  by_cases h2 : (b.length : Int) > 30
  · rw [decide_eq_true h2]; exact jt
  rw [decide_eq_false h2]
  have sa : S 64 a := ⟨wf_u32 wa, by omega⟩
  have sb : S 64 b := ⟨wf_u32 wb, by omega⟩
  have ko : Ev (fun k => steelyardkeep_Rat.f k x a b x a b) true := keepRat_to sa sb (by omega) rfl
  have j1 : ∀ (y : Bool) (c d : List Int) (y' : Bool) (c' d' : List Int) (e : Int) (s t : ByteArray), S 64 c → S 64 d → S 64 c' → S 64 d' →
      Ev (fun k => steelyardlaw25_EncloseTells.j1 k e s t e s t x a b x a b y c d y' c' d' y c d y' c' d' e) true := fun y c d y' c' d' e s t sc sd sc' sd' => by
    refine Ev.succ ?_
    simp only [steelyardlaw25_EncloseTells.j1]
    exact Ev.bind (keepRat_to sc sd (by omega) rfl) (Ev.ifp rfl (Ev.bind (keepRat_to sc' sd' (by omega) rfl) (Ev.ifp rfl (Ev.ifp trivial (Ev.ifp trivial (Ev.ifp trivial (Ev.ifp trivial (Ev.bind ko (Ev.ifp rfl (Ev.bind wakes25 (Ev.now _)))))))))))
  refine Ev.succ ?_
  simp only [steelyardlaw25_EncloseTells.j0]
  rw [OwnRat_to (by omega) (by omega)]
  simp only [Option.bind_some]
  refine Ev.ifn (by decide) ?_
  by_cases g : gq x a b = true
  · obtain ⟨q, hq, rfl, rfl, rfl⟩ := gq_spec g
    by_cases hv : 0 ≤ v ∧ v ≤ 60
    · obtain ⟨p, rfl⟩ := Int.eq_ofNat_of_zero_le hv.1
      have hp : p ≤ 60 := by omega
      by_cases h0 : 0 ≤ q.num
      · refine Ev.bind (eRoot_yes hq h0 hp) (Ev.bind (eText_to hq h0 hp) (Ev.bind (rRoot25_yes hq h0 hp) (Ev.ifp rfl ?_)))
        exact Ev.bind (rDown10_to (RL_Qs hq hp) hp) (Ev.bind (rDown10_to (RH_Qs hq hp) hp) (j1 _ _ _ _ _ _ 0 _ _ (Qs_a (RL_Qs hq hp)) (Qs_b (RL_Qs hq hp)) (Qs_a (RH_Qs hq hp)) (Qs_b (RH_Qs hq hp))))
      · refine Ev.bind (eRoot_neg hq (by omega) hp) (Ev.bind (eText_err (eRoot_neg hq (by omega) hp) (by decide)) (Ev.bind (rRoot25_neg hq (by omega) hp) (Ev.ifn (by decide) ?_)))
        exact j1 false [] [] false [] [] 18 _ _ S_nil S_nil S_nil S_nil
    · have hn : gq (cz q.num).1 (cz q.num).2 (L q.den) = false ∨ v < 0 ∨ 60 < v := .inr (by omega)
      have hm : Ev (fun k => steelyardref10_May.f k (cz q.num).1 (cz q.num).2 (L q.den) v) false := Ev.eq (rMay_to hq v) (decide_eq_false hv)
      refine Ev.bind (eRoot_no sa sb (by omega) hn) (Ev.bind (eText_err (eRoot_no sa sb (by omega) hn) (by decide)) (Ev.bind (rRoot25_no hm) (Ev.ifn (by decide) ?_)))
      exact j1 false [] [] false [] [] 1 _ _ S_nil S_nil S_nil S_nil
  · rw [Bool.not_eq_true] at g
    have hn : gq x a b = false ∨ v < 0 ∨ 60 < v := .inl g
    have hm : Ev (fun k => steelyardref10_May.f k x a b v) false := rMay_no sa sb (by omega) g v
    refine Ev.bind (eRoot_no sa sb (by omega) hn) (Ev.bind (eText_err (eRoot_no sa sb (by omega) hn) (by decide)) (Ev.bind (rRoot25_no hm) (Ev.ifn (by decide) ?_)))
    exact j1 false [] [] false [] [] 1 _ _ S_nil S_nil S_nil S_nil
end Go.Proofs.YtjgmmaeafodpmaaGreatDoor.Pure

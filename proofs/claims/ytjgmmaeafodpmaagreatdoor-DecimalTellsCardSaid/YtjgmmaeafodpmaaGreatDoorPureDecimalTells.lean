/- Package decimal and the reference say the same of any number, any count of places and any text. -/
import Derived.Test.YtjgmmaeafodpmaaGreatDoorMm
import Derived.Test.YtjgmmaeafodpmaaGreatDoorPxlawDecimalTells
set_option linter.unusedVariables false
set_option linter.unusedSimpArgs false
namespace Go.Proofs.YtjgmmaeafodpmaaGreatDoor.Pure
open Go.RowKit Go.Proofs.YtjgmmaeafodpmaaGreatDoor.P Go.Proofs.YtjgmmaeafodpmaaGreatDoorW.PrintWords Go.Proofs.YtjgmmaeafodpmaaGreatDoorW.PrintMore Go.Proofs.YtjgmmaeafodpmaaGreatDoor.Lib
theorem DecimalTells : steelyardlaw10_DecimalTells.Pure := by
  intro x a b v s _ _ wa _ _ wb _ _
  apply Ev.rounds
  have jt : Ev (fun k => steelyardlaw10_DecimalTells.j0 k v s true x a b) true := Ev.succ (by simp only [steelyardlaw10_DecimalTells.j0]; exact Ev.ifp trivial (Ev.bind wakes10 (Ev.now _)))
  unfold steelyardlaw10_DecimalTells.f
  rw [Long_to]
  simp only [Option.bind_some]
  by_cases h1 : a.length > 70 ∨ b.length > 70
  · exact Ev.ifp (decide_eq_true h1) jt
  refine Ev.ifn (by rw [decide_eq_false h1]; decide) ?_
  by_cases h2 : (s.size : Int) > 900
  · rw [decide_eq_true h2]; exact jt
  rw [decide_eq_false h2]
  have sa : S 70 a := ⟨wf_u32 wa, by omega⟩
  have sb : S 70 b := ⟨wf_u32 wb, by omega⟩
  obtain ⟨R, p1, p2, s1, s2⟩ := parse_both (s := s) (by omega)
  refine Ev.succ ?_
  simp only [steelyardlaw10_DecimalTells.j0]
  rw [OwnRat_to (by omega) (by omega)]
  simp only [Option.bind_some]
  refine Ev.ifn (by decide) (Ev.bind p1 (Ev.bind p2 ?_))
  have kp : Ev (fun k => steelyardkeep_Rat.f k R.1 R.2.1 R.2.2.1 R.1 R.2.1 R.2.2.1) true := keepRat_to s1 s2 (by omega) rfl
  have ko : Ev (fun k => steelyardkeep_Rat.f k x a b x a b) true := keepRat_to sa sb (by omega) rfl
  have no : (gq x a b = false ∨ v < 0 ∨ 60 < v) → Ev (fun k => steelyardref10_May.f k x a b v) false → Ev (fun k => steelyardlaw10_DecimalTells.j1 k v (⟨#[]⟩ : ByteArray) 1 (⟨#[]⟩ : ByteArray) 1 (⟨#[]⟩ : ByteArray) 1 1 false x a b false []) true := fun hn hm => by
    refine Ev.succ ?_
    simp only [steelyardlaw10_DecimalTells.j1]
    have e0 : (⟨#[]⟩ : ByteArray).toList = ([] : List UInt8) := ns_nil_iff.2 rfl
    exact Ev.ifn (by decide) (Ev.bind hm (Ev.ifn (by decide) (Ev.ifp trivial (Ev.ifp trivial (Ev.ifp trivial (Ev.ifp trivial (Ev.ifp e0 (Ev.ifp e0 (Ev.ifp e0 (Ev.ifp rfl (Ev.ifn (by decide) (Ev.bind wakes10 (Ev.now _)))))))))))))
  by_cases g : gq x a b = true
  · obtain ⟨q, hq, rfl, rfl, rfl⟩ := gq_spec g
    by_cases hv : 0 ≤ v ∧ v ≤ 60
    · obtain ⟨p, rfl⟩ := Int.eq_ofNat_of_zero_le hv.1
      have hp : p ≤ 60 := by omega
      refine Ev.bind (Down_to hq hp) (Ev.bind (Up_to' hq hp) (Ev.bind (Near_to hq hp) (Ev.bind (Floor10_to hq hp) (Ev.bind (dExact_to hq) (Ev.bind (rExact10_to hq) (Ev.ifp rfl (Ev.bind kp (Ev.ifp rfl (Ev.ifp rfl (Ev.bind ko ?_))))))))))
      refine Ev.succ ?_
      simp only [steelyardlaw10_DecimalTells.j1]
      refine Ev.ifn (by decide) (Ev.bind (rMay_to hq _) (Ev.ifp (decide_eq_true hv) (Ev.ifp trivial (Ev.ifp trivial (Ev.ifp trivial (Ev.ifp trivial ?_))))))
      refine Ev.bind (rDown10_to hq hp) (Ev.ifp rfl (Ev.bind (rUp10_to hq hp) (Ev.ifp rfl (Ev.bind (rNear10_to hq hp) (Ev.ifp rfl ?_)))))
      exact Ev.bind (rFloor10_to hq hp) (Ev.bind (keepCz_to (fl_lt hq hp).1 (by omega) rfl) (Ev.ifp rfl (Ev.bind wakes10 (Ev.now _))))
    · have hn : gq (cz q.num).1 (cz q.num).2 (L q.den) = false ∨ v < 0 ∨ 60 < v := .inr (by omega)
      refine Ev.bind (Down_no sa sb (by omega) hn) (Ev.bind (Up_no' sa sb (by omega) hn) (Ev.bind (Near_no sa sb (by omega) hn) (Ev.bind (Floor10_no sa sb (by omega) hn) (Ev.bind (dExact_to hq) (Ev.bind (rExact10_to hq) (Ev.ifp rfl (Ev.bind kp (Ev.ifp rfl (Ev.ifp rfl (Ev.bind ko ?_))))))))))
      exact no hn (Ev.eq (rMay_to hq v) (decide_eq_false hv))
  · rw [Bool.not_eq_true] at g
    have hn : gq x a b = false ∨ v < 0 ∨ 60 < v := .inl g
    refine Ev.bind (Down_no sa sb (by omega) hn) (Ev.bind (Up_no' sa sb (by omega) hn) (Ev.bind (Near_no sa sb (by omega) hn) (Ev.bind (Floor10_no sa sb (by omega) hn) (Ev.bind (dExact_no sa sb (by omega) g) (Ev.bind (rExact10_no sa sb (by omega) g) (Ev.ifp rfl (Ev.bind kp (Ev.ifp rfl (Ev.ifp rfl (Ev.bind ko ?_))))))))))
    exact no hn (rMay_no sa sb (by omega) g v)
end Go.Proofs.YtjgmmaeafodpmaaGreatDoor.Pure

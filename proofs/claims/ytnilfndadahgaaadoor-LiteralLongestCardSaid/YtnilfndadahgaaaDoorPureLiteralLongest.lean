/- Of any text of at most 390 bytes: what it begins with is a literal; a literal is the longest one of itself, whatever stands behind a blank or an x. -/
import Derived.Test.YtnilfndadahgaaaDoorMl
import Derived.Test.YtnilfndadahgaaaDoorPxlawLiteralLongest
set_option linter.unusedVariables false
set_option linter.unusedSimpArgs false
namespace Go.Proofs.YtnilfndadahgaaaDoor.Pure
open Go.RowKit Go.Proofs.YtnilfndadahgaaaDoor.P Go.Proofs.YtnilfndadahgaaaDoorW.PrintWords Go.Proofs.YtnilfndadahgaaaDoorW.PrintMore Go.Proofs.YtnilfndadahgaaaDoor.Lib
theorem LiteralLongest : steelyardlaw09_LiteralLongest.Pure := by
  intro s t _ _
  apply Ev.rounds
  have jt : Ev (fun k => steelyardlaw09_LiteralLongest.j0 k s t true) true := Ev.succ (by simp only [steelyardlaw09_LiteralLongest.j0]; exact Ev.ifp trivial (Ev.bind wakes9 (Ev.now _)))
  unfold steelyardlaw09_LiteralLongest.f
  by_cases h1 : (s.size : Int) > 390
  · exact Ev.ifp h1 jt
  refine Ev.ifn h1 ?_
  by_cases h2 : (t.size : Int) > 300
  · rw [decide_eq_true h2]; exact jt
  rw [decide_eq_false h2]
  refine Ev.succ ?_
  simp only [steelyardlaw09_LiteralLongest.j0]
  refine Ev.ifn (by decide) (Ev.bind (rgood_to (by omega)) ?_)
  cases hg : good (ns s) with
  | true =>
    obtain ⟨hl, A, B, E, sg, h⟩ := good_iff.1 hg
    have e0 : ln (ns s) = s.size := by
      have := ln_lit h Stops_nil
      rw [List.append_nil, ns_len] at this
      exact this
    have e1 : ∀ c : UInt8, (c = 32 ∨ c = 120) → ln (ns ((s ++ (⟨#[c]⟩ : ByteArray)) ++ t)) = s.size := fun c hc => by
      rw [ns_append, ns_append, List.append_assoc, show ns (⟨#[c]⟩ : ByteArray) = [(c.toNat : Int)] from rfl]
      have : Stops ([(c.toNat : Int)] ++ ns t) := by
        rcases hc with rfl | rfl
        · exact ⟨rfl, by simp, by simp⟩
        · exact ⟨rfl, by simp, by simp⟩
      rw [ln_lit h this, ns_len]
    have z1 : ∀ c : UInt8, ((s ++ (⟨#[c]⟩ : ByteArray)) ++ t).size = s.size + 1 + t.size := fun c => by rw [ByteArray.size_append, ByteArray.size_append]; rfl
    have z2 : ∀ c : UInt8, (s ++ (⟨#[c]⟩ : ByteArray)).size = s.size + 1 := fun c => by rw [ByteArray.size_append]; rfl
    refine Ev.ifp rfl (Ev.bind (Good_to (by omega)) ?_)
    rw [hg]
    refine Ev.ifp rfl (Ev.bind (Length_to (by omega)) ?_)
    rw [e0]
    refine Ev.ifp rfl (Ev.ifp (by omega) (Ev.ifp (by rw [z2]; omega) (Ev.bind (Length_to (by rw [z1]; omega)) ?_)))
    rw [e1 32 (.inl rfl)]
    refine Ev.ifp rfl (Ev.ifp (by rw [z2]; omega) (Ev.bind (Length_to (by rw [z1]; omega)) ?_))
    rw [e1 120 (.inr rfl)]
    exact Ev.ifp rfl (Ev.bind wakes9 (Ev.now _))
  | false =>
    have hle := ln_le (ns s)
    rw [ns_len] at hle
    refine Ev.ifn (by decide) (Ev.bind (Length_to (by omega)) (Ev.ifp (by omega) (Ev.ifp (by omega) ?_)))
    by_cases c : ln (ns s) = 0
    · exact Ev.ifp (by omega) (Ev.bind wakes9 (Ev.now _))
    · have h0 : rn (ns s) ≠ 0 := fun e => c (by unfold ln; rw [if_pos e])
      have hx : ns (s.extract 0 (ln (ns s))) = (ns s).take (ln (ns s)) := ns_front _ _
      have hz := size_ns hx
      rw [List.length_take, ns_len] at hz
      refine Ev.ifn (by omega) (Ev.ifp (by omega) ?_)
      rw [Int.toNat_natCast]
      refine Ev.bind (Good_to (by omega)) ?_
      rw [hx, good_iff.2 ⟨by rw [List.length_take, ns_len]; omega, lit_parts _ h0⟩]
      exact Ev.ifp rfl (Ev.bind wakes9 (Ev.now _))
end Go.Proofs.YtnilfndadahgaaaDoor.Pure

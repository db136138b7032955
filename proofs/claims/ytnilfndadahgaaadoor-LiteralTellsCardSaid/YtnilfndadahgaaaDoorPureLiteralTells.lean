/- Of any text of at most 1000 bytes: whether it is a literal, the longest one that it begins with, its number, or why there is none: what the reference says. -/
import Derived.Test.YtnilfndadahgaaaDoorMl
import Derived.Test.YtnilfndadahgaaaDoorPxlawLiteralTells
set_option linter.unusedVariables false
set_option linter.unusedSimpArgs false
namespace Go.Proofs.YtnilfndadahgaaaDoor.Pure
open Go.RowKit Go.Proofs.YtnilfndadahgaaaDoor.P Go.Proofs.YtnilfndadahgaaaDoorW.PrintWords Go.Proofs.YtnilfndadahgaaaDoorW.PrintMore Go.Proofs.YtnilfndadahgaaaDoor.Lib
theorem LiteralTells : steelyardlaw09_LiteralTells.Pure := by
  intro s _
  apply Ev.rounds
  unfold steelyardlaw09_LiteralTells.f
  by_cases h1 : (s.size : Int) > 1000
  · exact Ev.ifp h1 (Ev.bind wakes9 (Ev.now _))
  refine Ev.ifn h1 ?_
  obtain ⟨R, hp, hr, s1, s2⟩ : ∃ R : Bool × List Int × List Int × Int, Ev (fun m => literal_Parse.f m s) R ∧ Ev (fun m => steelyardref09_Parse.f m s) R ∧ S 64 R.2.1 ∧ S 64 R.2.2.1 := by
    cases hg : good (ns s) with
    | false => exact ⟨_, Lit_no (by omega) hg, rLit_no (by omega) hg, S_nil, S_nil⟩
    | true =>
      obtain ⟨hl, A, B, E, sg, h⟩ := good_iff.1 hg
      exact ⟨_, Lit_to h hl rfl rfl, rLit_to h hl, S_qr1 _, S_qr2 _⟩
  refine Ev.bind hp (Ev.bind hr (Ev.bind (Good_to (by omega)) (Ev.bind (rgood_to (by omega)) (Ev.ifp (by simp) ?_))))
  refine Ev.bind (Length_to (by omega)) (Ev.bind (rLength_to (by omega)) (Ev.ifp rfl ?_))
  exact Ev.bind (keepRat_to s1 s2 (by omega) rfl) (Ev.ifp rfl (Ev.ifp rfl (Ev.bind wakes9 (Ev.now _))))
end Go.Proofs.YtnilfndadahgaaaDoor.Pure

/- The law: what its plain function answers, and its call in any memory. -/
import Derived.Test.YtnilfndadahgaaaDoorMb
import Derived.Test.YtnilfndadahgaaaDoorHLLiteralParts
set_option linter.unusedVariables false
set_option linter.unusedSimpArgs false
namespace Go.Proofs.YtnilfndadahgaaaDoor.P
open Go Go.RowKit Go.Proofs.YtnilfndadahgaaaDoor.Am Go.Proofs.YtnilfndadahgaaaDoorW.PrintWords Go.Proofs.YtnilfndadahgaaaDoorW.PrintMore
def steelyardlaw09_LiteralParts.Pure : Prop := ∀ (a0 : Int) (a1 : Int), (Lit.int .u32 a0).wf = true → (Lit.int .u32 a1).wf = true → ∃ k, steelyardlaw09_LiteralParts.f k a0 a1 = some true
theorem steelyardlaw09_LiteralParts.walk (P : steelyardlaw09_LiteralParts.Pure) (a0 : Int) (a1 : Int) (w : World) (w0 : (Lit.int .u32 a0).wf = true) (w1 : (Lit.int .u32 a1).wf = true) (hrT0 : Kd.C (Kd.int .u32) w (some ⟨0, 0, none⟩) tab0_.length tab0_) (hrT1 : F w (old w) (.fptr (.agg (tab1_.map AV.bool))) (.pointer (some ⟨1, 0, none⟩))) (mx : Int) (hmx : w.cell? ⟨3, 0, none⟩ = some (.int .i64 mx)) :
    Calls Tryd.prog 10 #[.int .u32 a0, .int .u32 a1] w fun e w' => e = .returned (.bool true) ∧ Below w.heap.size w w' := by
  obtain ⟨k, h⟩ := P a0 a1 w0 w1
  have H := steelyardlaw09_LiteralParts.holds (mx := mx) k a0 a1 true h
  refine calls_of_holds H w [.int .u32 a0, .int .u32 a1] ?_ ?_
  · intro g hg
    unfold G0 at hg ⊢
    by_cases c0 : g = 0
    · subst c0; simp only [reduceIte, Nat.reduceEqDiff]; exact F_of_tab hrT0 (by decide)
    by_cases c1 : g = 1
    · subst c1; simp only [reduceIte, Nat.reduceEqDiff]; exact hrT1
    by_cases cM : g = 3
    · subst cM; simp only [reduceIte, Nat.reduceEqDiff]; exact F_of_int hmx
    · exact absurd (by simp [c0, c1, cM]) hg
  · repeat' first
      | exact Pw.nil
      | refine Pw.cons (.f _ _ ?_) ?_
      | exact .bool _
      | exact .int _ _
      | exact .str _
      | with_reducible assumption
      | refine F_agg ?_
      | exact Fl.nil
      | refine Fl.cons ?_ rfl ?_
end Go.Proofs.YtnilfndadahgaaaDoor.P

/- The law: what its plain function answers, and its call in any memory. -/
import Derived.Test.YtnilfndadahgaaaDoorMb
import Derived.Test.YtnilfndadahgaaaDoorHLLiteralNoughts
set_option linter.unusedVariables false
set_option linter.unusedSimpArgs false
namespace Go.Proofs.YtnilfndadahgaaaDoor.P
open Go Go.RowKit Go.Proofs.YtnilfndadahgaaaDoor.Am Go.Proofs.YtnilfndadahgaaaDoorW.PrintWords Go.Proofs.YtnilfndadahgaaaDoorW.PrintMore
def steelyardlaw09_LiteralNoughts.Pure : Prop := ∀ (a0 : Int) (a1 : Int) (a2_0 : Int) (a2_1 : Int) (a2_2 : Int), (Lit.int .u32 a0).wf = true → (Lit.int .u32 a1).wf = true → (Lit.int .u8 a2_0).wf = true → (Lit.int .u8 a2_1).wf = true → (Lit.int .u8 a2_2).wf = true → ∃ k, steelyardlaw09_LiteralNoughts.f k a0 a1 a2_0 a2_1 a2_2 = some true
theorem steelyardlaw09_LiteralNoughts.walk (P : steelyardlaw09_LiteralNoughts.Pure) (a0 : Int) (a1 : Int) (a2_0 : Int) (a2_1 : Int) (a2_2 : Int) (w : World) (w0 : (Lit.int .u32 a0).wf = true) (w1 : (Lit.int .u32 a1).wf = true) (w2_0 : (Lit.int .u8 a2_0).wf = true) (w2_1 : (Lit.int .u8 a2_1).wf = true) (w2_2 : (Lit.int .u8 a2_2).wf = true) (hrT0 : Kd.C (Kd.int .u32) w (some ⟨0, 0, none⟩) tab0_.length tab0_) (hrT1 : F w (old w) (.fptr (.agg (tab1_.map AV.bool))) (.pointer (some ⟨1, 0, none⟩))) (mx : Int) (hmx : w.cell? ⟨3, 0, none⟩ = some (.int .i64 mx)) :
    Calls Tryd.prog 11 #[.int .u32 a0, .int .u32 a1, .agg #[.int .u8 a2_0, .int .u8 a2_1, .int .u8 a2_2]] w fun e w' => e = .returned (.bool true) ∧ Below w.heap.size w w' := by
  obtain ⟨k, h⟩ := P a0 a1 a2_0 a2_1 a2_2 w0 w1 w2_0 w2_1 w2_2
  have H := steelyardlaw09_LiteralNoughts.holds (mx := mx) k a0 a1 a2_0 a2_1 a2_2 true h
  refine calls_of_holds H w [.int .u32 a0, .int .u32 a1, .agg #[.int .u8 a2_0, .int .u8 a2_1, .int .u8 a2_2]] ?_ ?_
  · intro g hg
    unfold G0 at hg ⊢
    by_cases c0 : g = 0
    · subst c0; simp only [reduceIte, Nat.reduceEqDiff]; exact F_of_tab hrT0 (by decide)
    by_cases c1 : g = 1
    · subst c1; simp only [reduceIte, Nat.reduceEqDiff]; exact hrT1
    by_cases cM : g = 3
    · subst cM; simp only [reduceIte, Nat.reduceEqDiff]; exact F_of_int hmx
    · exact absurd (by simp [c0, c1, cM]) hg
  · repeat' first
      | exact Pw.nil
      | refine Pw.cons (.f _ _ ?_) ?_
      | exact .bool _
      | exact .int _ _
      | exact .str _
      | with_reducible assumption
      | refine F_agg ?_
      | exact Fl.nil
      | refine Fl.cons ?_ rfl ?_
end Go.Proofs.YtnilfndadahgaaaDoor.P

/- The law: what its plain function answers, and its call in any memory. -/
import Derived.Test.YtjgmmaeafodpmaaGreatDoorMb
import Derived.Test.YtjgmmaeafodpmaaGreatDoorHLDecimalBounds
set_option linter.unusedVariables false
set_option linter.unusedSimpArgs false
namespace Go.Proofs.YtjgmmaeafodpmaaGreatDoor.P
open Go Go.RowKit Go.Proofs.YtjgmmaeafodpmaaGreatDoor.Am Go.Proofs.YtjgmmaeafodpmaaGreatDoorW.PrintWords Go.Proofs.YtjgmmaeafodpmaaGreatDoorW.PrintMore
def steelyardlaw10_DecimalBounds.Pure : Prop := ∀ (a0_0 : Bool) (l0_1 : List Int) (l0_2 : List Int) (a1 : Int), l0_1.length ≤ maxLen → l0_1.length * 4 ≤ 140737488351232 → (∀ x ∈ l0_1, (Lit.int .u32 x).wf = true) → l0_2.length ≤ maxLen → l0_2.length * 4 ≤ 140737488351232 → (∀ x ∈ l0_2, (Lit.int .u32 x).wf = true) → (Lit.int .u8 a1).wf = true → ∃ k, steelyardlaw10_DecimalBounds.f k a0_0 l0_1 l0_2 a1 = some true
theorem steelyardlaw10_DecimalBounds.walk (P : steelyardlaw10_DecimalBounds.Pure) (a0_0 : Bool) (a0_1 : Option Addr) (len0_1 cap0_1 : Nat) (z0_1 : List Int) (a0_2 : Option Addr) (len0_2 cap0_2 : Nat) (z0_2 : List Int) (a1 : Int) (w : World) (w0_1 : (a0_1 = none ∧ len0_1 = 0 ∧ cap0_1 = 0 ∧ z0_1 = []) ∨ ∃ x, a0_1 = some x ∧ len0_1 ≤ cap0_1 ∧ cap0_1 ≤ maxLen ∧ z0_1.length = cap0_1 ∧ (∀ i, i < z0_1.length → w.cell? (x.add i) = some (.int .u32 (z0_1.getD i 0))) ∧ ∀ n ∈ z0_1, (Lit.int .u32 n).wf = true) (y0_1 : len0_1 * 4 ≤ 140737488351232) (w0_2 : (a0_2 = none ∧ len0_2 = 0 ∧ cap0_2 = 0 ∧ z0_2 = []) ∨ ∃ x, a0_2 = some x ∧ len0_2 ≤ cap0_2 ∧ cap0_2 ≤ maxLen ∧ z0_2.length = cap0_2 ∧ (∀ i, i < z0_2.length → w.cell? (x.add i) = some (.int .u32 (z0_2.getD i 0))) ∧ ∀ n ∈ z0_2, (Lit.int .u32 n).wf = true) (y0_2 : len0_2 * 4 ≤ 140737488351232) (w1 : (Lit.int .u8 a1).wf = true) (hrT0 : Kd.C (Kd.int .u32) w (some ⟨0, 0, none⟩) tab0_.length tab0_) (mx : Int) (hmx : w.cell? ⟨1, 0, none⟩ = some (.int .i64 mx)) :
    Calls Tryz.prog 10 #[.agg #[.bool a0_0, .slice a0_1 len0_1 cap0_1, .slice a0_2 len0_2 cap0_2], .int .u8 a1] w fun e w' => e = .returned (.bool true) ∧ Below w.heap.size w w' := by
  obtain ⟨l0_1, rfl, hF0_1, hm0_1, hw0_1⟩ := F_of_row w0_1
  obtain ⟨l0_2, rfl, hF0_2, hm0_2, hw0_2⟩ := F_of_row w0_2
  obtain ⟨k, h⟩ := P a0_0 l0_1 l0_2 a1 hm0_1 y0_1 hw0_1 hm0_2 y0_2 hw0_2 w1
  have H := steelyardlaw10_DecimalBounds.holds (mx := mx) k a0_0 l0_1 l0_2 a1 true h
  refine calls_of_holds H w [.agg #[.bool a0_0, .slice a0_1 l0_1.length cap0_1, .slice a0_2 l0_2.length cap0_2], .int .u8 a1] ?_ ?_
  · intro g hg
    unfold G0 at hg ⊢
    by_cases c0 : g = 0
    · subst c0; simp only [reduceIte, Nat.reduceEqDiff]; exact F_of_tab hrT0 (by decide)
    by_cases cM : g = 1
    · subst cM; simp only [reduceIte, Nat.reduceEqDiff]; exact F_of_int hmx
    · exact absurd (by simp [c0, cM]) hg
  · repeat' first
      | exact Pw.nil
      | refine Pw.cons (.f _ _ ?_) ?_
      | exact .bool _
      | exact .int _ _
      | exact .str _
      | with_reducible assumption
      | refine F_agg ?_
      | exact Fl.nil
      | refine Fl.cons ?_ rfl ?_
end Go.Proofs.YtjgmmaeafodpmaaGreatDoor.P

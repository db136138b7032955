/- The law: what its plain function answers, and its call in any memory. -/
import Derived.Test.YtjgmmaeafodpmaaGreatDoorMb
import Derived.Test.YtjgmmaeafodpmaaGreatDoorHLDecimalWhole
set_option linter.unusedVariables false
set_option linter.unusedSimpArgs false
namespace Go.Proofs.YtjgmmaeafodpmaaGreatDoor.P
open Go Go.RowKit Go.Proofs.YtjgmmaeafodpmaaGreatDoor.Am Go.Proofs.YtjgmmaeafodpmaaGreatDoorW.PrintWords Go.Proofs.YtjgmmaeafodpmaaGreatDoorW.PrintMore
def steelyardlaw10_DecimalWhole.Pure : Prop := ∀ (a0 : Int) (a1_0 : Bool) (l1_1 : List Int) (l1_2 : List Int) (a2 : Int), (Lit.int .i32 a0).wf = true → l1_1.length ≤ maxLen → l1_1.length * 4 ≤ 140737488351232 → (∀ x ∈ l1_1, (Lit.int .u32 x).wf = true) → l1_2.length ≤ maxLen → l1_2.length * 4 ≤ 140737488351232 → (∀ x ∈ l1_2, (Lit.int .u32 x).wf = true) → (Lit.int .u8 a2).wf = true → ∃ k, steelyardlaw10_DecimalWhole.f k a0 a1_0 l1_1 l1_2 a2 = some true
theorem steelyardlaw10_DecimalWhole.walk (P : steelyardlaw10_DecimalWhole.Pure) (a0 : Int) (a1_0 : Bool) (a1_1 : Option Addr) (len1_1 cap1_1 : Nat) (z1_1 : List Int) (a1_2 : Option Addr) (len1_2 cap1_2 : Nat) (z1_2 : List Int) (a2 : Int) (w : World) (w0 : (Lit.int .i32 a0).wf = true) (w1_1 : (a1_1 = none ∧ len1_1 = 0 ∧ cap1_1 = 0 ∧ z1_1 = []) ∨ ∃ x, a1_1 = some x ∧ len1_1 ≤ cap1_1 ∧ cap1_1 ≤ maxLen ∧ z1_1.length = cap1_1 ∧ (∀ i, i < z1_1.length → w.cell? (x.add i) = some (.int .u32 (z1_1.getD i 0))) ∧ ∀ n ∈ z1_1, (Lit.int .u32 n).wf = true) (y1_1 : len1_1 * 4 ≤ 140737488351232) (w1_2 : (a1_2 = none ∧ len1_2 = 0 ∧ cap1_2 = 0 ∧ z1_2 = []) ∨ ∃ x, a1_2 = some x ∧ len1_2 ≤ cap1_2 ∧ cap1_2 ≤ maxLen ∧ z1_2.length = cap1_2 ∧ (∀ i, i < z1_2.length → w.cell? (x.add i) = some (.int .u32 (z1_2.getD i 0))) ∧ ∀ n ∈ z1_2, (Lit.int .u32 n).wf = true) (y1_2 : len1_2 * 4 ≤ 140737488351232) (w2 : (Lit.int .u8 a2).wf = true) (hrT0 : Kd.C (Kd.int .u32) w (some ⟨0, 0, none⟩) tab0_.length tab0_) (mx : Int) (hmx : w.cell? ⟨1, 0, none⟩ = some (.int .i64 mx)) :
    Calls Tryz.prog 8 #[.int .i32 a0, .agg #[.bool a1_0, .slice a1_1 len1_1 cap1_1, .slice a1_2 len1_2 cap1_2], .int .u8 a2] w fun e w' => e = .returned (.bool true) ∧ Below w.heap.size w w' := by
  obtain ⟨l1_1, rfl, hF1_1, hm1_1, hw1_1⟩ := F_of_row w1_1
  obtain ⟨l1_2, rfl, hF1_2, hm1_2, hw1_2⟩ := F_of_row w1_2
  obtain ⟨k, h⟩ := P a0 a1_0 l1_1 l1_2 a2 w0 hm1_1 y1_1 hw1_1 hm1_2 y1_2 hw1_2 w2
  have H := steelyardlaw10_DecimalWhole.holds (mx := mx) k a0 a1_0 l1_1 l1_2 a2 true h
  refine calls_of_holds H w [.int .i32 a0, .agg #[.bool a1_0, .slice a1_1 l1_1.length cap1_1, .slice a1_2 l1_2.length cap1_2], .int .u8 a2] ?_ ?_
  · intro g hg
    unfold G0 at hg ⊢
    by_cases c0 : g = 0
    · subst c0; simp only [reduceIte, Nat.reduceEqDiff]; exact F_of_tab hrT0 (by decide)
    by_cases cM : g = 1
    · subst cM; simp only [reduceIte, Nat.reduceEqDiff]; exact F_of_int hmx
    · exact absurd (by simp [c0, cM]) hg
  · repeat' first
      | exact Pw.nil
      | refine Pw.cons (.f _ _ ?_) ?_
      | exact .bool _
      | exact .int _ _
      | exact .str _
      | with_reducible assumption
      | refine F_agg ?_
      | exact Fl.nil
      | refine Fl.cons ?_ rfl ?_
end Go.Proofs.YtjgmmaeafodpmaaGreatDoor.P

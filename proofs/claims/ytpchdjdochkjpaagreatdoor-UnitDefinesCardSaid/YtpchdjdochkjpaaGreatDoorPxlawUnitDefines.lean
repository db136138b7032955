/- The law: what its plain function answers, and its call in any memory. -/
import Derived.Test.YtpchdjdochkjpaaGreatDoorMc
import Derived.Test.YtpchdjdochkjpaaGreatDoorHLUnitDefines
set_option linter.unusedVariables false
set_option linter.unusedSimpArgs false
namespace Go.Proofs.YtpchdjdochkjpaaGreatDoor.P
open Go Go.RowKit Go.Proofs.YtpchdjdochkjpaaGreatDoor.Am Go.Proofs.YtpchdjdochkjpaaGreatDoorW.PrintWords Go.Proofs.YtpchdjdochkjpaaGreatDoorW.PrintMore
def steelyardlaw12_UnitDefines.Pure : Prop := ∀ (a0 : ByteArray) (a1_0 : Bool) (l1_1 : List Int) (l1_2 : List Int) (a1_3 : Int) (a1_4 : Int) (a1_5 : Int) (a1_6 : Int) (a1_7 : Int) (a1_8 : Int) (a1_9 : Int), a0.size ≤ 140737488351232 → l1_1.length ≤ maxLen → l1_1.length * 4 ≤ 140737488351232 → (∀ x ∈ l1_1, (Lit.int .u32 x).wf = true) → l1_2.length ≤ maxLen → l1_2.length * 4 ≤ 140737488351232 → (∀ x ∈ l1_2, (Lit.int .u32 x).wf = true) → (Lit.int .i64 a1_3).wf = true → (Lit.int .i64 a1_4).wf = true → (Lit.int .i64 a1_5).wf = true → (Lit.int .i64 a1_6).wf = true → (Lit.int .i64 a1_7).wf = true → (Lit.int .i64 a1_8).wf = true → (Lit.int .i64 a1_9).wf = true → ∃ k, steelyardlaw12_UnitDefines.f k a0 ⟨a1_0, l1_1, l1_2, ⟨a1_3, a1_4, a1_5, a1_6, a1_7, a1_8, a1_9⟩⟩ = some true
theorem steelyardlaw12_UnitDefines.walk (P : steelyardlaw12_UnitDefines.Pure) (a0 : ByteArray) (a1_0 : Bool) (a1_1 : Option Addr) (len1_1 cap1_1 : Nat) (z1_1 : List Int) (a1_2 : Option Addr) (len1_2 cap1_2 : Nat) (z1_2 : List Int) (a1_3 : Int) (a1_4 : Int) (a1_5 : Int) (a1_6 : Int) (a1_7 : Int) (a1_8 : Int) (a1_9 : Int) (w : World) (w0 : a0.size ≤ 140737488351232) (w1_1 : (a1_1 = none ∧ len1_1 = 0 ∧ cap1_1 = 0 ∧ z1_1 = []) ∨ ∃ x, a1_1 = some x ∧ len1_1 ≤ cap1_1 ∧ cap1_1 ≤ maxLen ∧ z1_1.length = cap1_1 ∧ (∀ i, i < z1_1.length → w.cell? (x.add i) = some (.int .u32 (z1_1.getD i 0))) ∧ ∀ n ∈ z1_1, (Lit.int .u32 n).wf = true) (y1_1 : len1_1 * 4 ≤ 140737488351232) (w1_2 : (a1_2 = none ∧ len1_2 = 0 ∧ cap1_2 = 0 ∧ z1_2 = []) ∨ ∃ x, a1_2 = some x ∧ len1_2 ≤ cap1_2 ∧ cap1_2 ≤ maxLen ∧ z1_2.length = cap1_2 ∧ (∀ i, i < z1_2.length → w.cell? (x.add i) = some (.int .u32 (z1_2.getD i 0))) ∧ ∀ n ∈ z1_2, (Lit.int .u32 n).wf = true) (y1_2 : len1_2 * 4 ≤ 140737488351232) (w1_3 : (Lit.int .i64 a1_3).wf = true) (w1_4 : (Lit.int .i64 a1_4).wf = true) (w1_5 : (Lit.int .i64 a1_5).wf = true) (w1_6 : (Lit.int .i64 a1_6).wf = true) (w1_7 : (Lit.int .i64 a1_7).wf = true) (w1_8 : (Lit.int .i64 a1_8).wf = true) (w1_9 : (Lit.int .i64 a1_9).wf = true) (hrT0 : Go.Proofs.YtpchdjdochkjpaaGreatDoor.Am.F w (Go.Proofs.YtpchdjdochkjpaaGreatDoor.Am.old w) (.fptr (.agg Go.Proofs.YtpchdjdochkjpaaGreatDoor.Am.rowsT)) (.pointer (some ⟨0, 0, none⟩))) (hrT1 : Go.Proofs.YtpchdjdochkjpaaGreatDoor.Am.F w (Go.Proofs.YtpchdjdochkjpaaGreatDoor.Am.old w) (.fptr (.agg Go.Proofs.YtpchdjdochkjpaaGreatDoor.Am.pfxT)) (.pointer (some ⟨1, 0, none⟩))) :
    Calls Tryz.prog 7 #[.string a0, .agg #[.bool a1_0, .slice a1_1 len1_1 cap1_1, .slice a1_2 len1_2 cap1_2, .int .i64 a1_3, .int .i64 a1_4, .int .i64 a1_5, .int .i64 a1_6, .int .i64 a1_7, .int .i64 a1_8, .int .i64 a1_9]] w fun e w' => e = .returned (.bool true) ∧ Below w.heap.size w w' := by
  obtain ⟨l1_1, rfl, hF1_1, hm1_1, hw1_1⟩ := F_of_row w1_1
  obtain ⟨l1_2, rfl, hF1_2, hm1_2, hw1_2⟩ := F_of_row w1_2
  obtain ⟨k, h⟩ := P a0 a1_0 l1_1 l1_2 a1_3 a1_4 a1_5 a1_6 a1_7 a1_8 a1_9 w0 hm1_1 y1_1 hw1_1 hm1_2 y1_2 hw1_2 w1_3 w1_4 w1_5 w1_6 w1_7 w1_8 w1_9
  have H := steelyardlaw12_UnitDefines.holds k a0 ⟨a1_0, l1_1, l1_2, ⟨a1_3, a1_4, a1_5, a1_6, a1_7, a1_8, a1_9⟩⟩ true h
  refine calls_of_holds H w [.string a0, .agg #[.bool a1_0, .slice a1_1 l1_1.length cap1_1, .slice a1_2 l1_2.length cap1_2, .int .i64 a1_3, .int .i64 a1_4, .int .i64 a1_5, .int .i64 a1_6, .int .i64 a1_7, .int .i64 a1_8, .int .i64 a1_9]] ?_ ?_
  · intro g hg
    unfold G0 at hg ⊢
    by_cases c0 : g = 0
    · subst c0; simp only [reduceIte, Nat.reduceEqDiff]; exact hrT0
    by_cases c1 : g = 1
    · subst c1; simp only [reduceIte, Nat.reduceEqDiff]; exact hrT1
    · exact absurd (by simp [c0, c1]) hg
  · repeat' first
      | exact Pw.nil
      | refine Pw.cons (.f _ _ ?_) ?_
      | exact .bool _
      | exact .int _ _
      | exact .str _
      | with_reducible assumption
      | refine F_agg ?_
      | exact Fl.nil
      | refine Fl.cons ?_ rfl ?_
end Go.Proofs.YtpchdjdochkjpaaGreatDoor.P

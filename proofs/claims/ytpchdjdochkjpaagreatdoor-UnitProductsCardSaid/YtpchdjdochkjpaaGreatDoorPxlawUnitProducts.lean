/- The law: what its plain function answers, and its call in any memory. -/
import Derived.Test.YtpchdjdochkjpaaGreatDoorMc
import Derived.Test.YtpchdjdochkjpaaGreatDoorHLUnitProducts
set_option linter.unusedVariables false
set_option linter.unusedSimpArgs false
namespace Go.Proofs.YtpchdjdochkjpaaGreatDoor.P
open Go Go.RowKit Go.Proofs.YtpchdjdochkjpaaGreatDoor.Am Go.Proofs.YtpchdjdochkjpaaGreatDoorW.PrintWords Go.Proofs.YtpchdjdochkjpaaGreatDoorW.PrintMore
def steelyardlaw12_UnitProducts.Pure : Prop := ∀ (a0 : ByteArray) (a1 : ByteArray), a0.size ≤ 140737488351232 → a1.size ≤ 140737488351232 → ∃ k, steelyardlaw12_UnitProducts.f k a0 a1 = some true
theorem steelyardlaw12_UnitProducts.walk (P : steelyardlaw12_UnitProducts.Pure) (a0 : ByteArray) (a1 : ByteArray) (w : World) (w0 : a0.size ≤ 140737488351232) (w1 : a1.size ≤ 140737488351232) (hrT0 : Go.Proofs.YtpchdjdochkjpaaGreatDoor.Am.F w (Go.Proofs.YtpchdjdochkjpaaGreatDoor.Am.old w) (.fptr (.agg Go.Proofs.YtpchdjdochkjpaaGreatDoor.Am.rowsT)) (.pointer (some ⟨0, 0, none⟩))) (hrT1 : Go.Proofs.YtpchdjdochkjpaaGreatDoor.Am.F w (Go.Proofs.YtpchdjdochkjpaaGreatDoor.Am.old w) (.fptr (.agg Go.Proofs.YtpchdjdochkjpaaGreatDoor.Am.pfxT)) (.pointer (some ⟨1, 0, none⟩))) :
    Calls Tryz.prog 4 #[.string a0, .string a1] w fun e w' => e = .returned (.bool true) ∧ Below w.heap.size w w' := by
  obtain ⟨k, h⟩ := P a0 a1 w0 w1
  have H := steelyardlaw12_UnitProducts.holds k a0 a1 true h
  refine calls_of_holds H w [.string a0, .string a1] ?_ ?_
  · intro g hg
    unfold G0 at hg ⊢
    by_cases c0 : g = 0
    · subst c0; simp only [reduceIte, Nat.reduceEqDiff]; exact hrT0
    by_cases c1 : g = 1
    · subst c1; simp only [reduceIte, Nat.reduceEqDiff]; exact hrT1
    · exact absurd (by simp [c0, c1]) hg
  · repeat' first
      | exact Pw.nil
      | refine Pw.cons (.f _ _ ?_) ?_
      | exact .bool _
      | exact .int _ _
      | exact .str _
      | with_reducible assumption
      | refine F_agg ?_
      | exact Fl.nil
      | refine Fl.cons ?_ rfl ?_
end Go.Proofs.YtpchdjdochkjpaaGreatDoor.P

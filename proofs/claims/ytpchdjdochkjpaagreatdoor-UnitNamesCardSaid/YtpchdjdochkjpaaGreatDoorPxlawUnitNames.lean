/- The law: what its plain function answers, and its call in any memory. -/
import Derived.Test.YtpchdjdochkjpaaGreatDoorMc
import Derived.Test.YtpchdjdochkjpaaGreatDoorHLUnitNames
set_option linter.unusedVariables false
set_option linter.unusedSimpArgs false
namespace Go.Proofs.YtpchdjdochkjpaaGreatDoor.P
open Go Go.RowKit Go.Proofs.YtpchdjdochkjpaaGreatDoor.Am Go.Proofs.YtpchdjdochkjpaaGreatDoorW.PrintWords Go.Proofs.YtpchdjdochkjpaaGreatDoorW.PrintMore
def steelyardlaw12_UnitNames.Pure : Prop := ∀ (a0 : Int) (a1 : Int), (Lit.int .u16 a0).wf = true → (Lit.int .u16 a1).wf = true → ∃ k, steelyardlaw12_UnitNames.f k a0 a1 = some true
theorem steelyardlaw12_UnitNames.walk (P : steelyardlaw12_UnitNames.Pure) (a0 : Int) (a1 : Int) (w : World) (w0 : (Lit.int .u16 a0).wf = true) (w1 : (Lit.int .u16 a1).wf = true) (hrT0 : Go.Proofs.YtpchdjdochkjpaaGreatDoor.Am.F w (Go.Proofs.YtpchdjdochkjpaaGreatDoor.Am.old w) (.fptr (.agg Go.Proofs.YtpchdjdochkjpaaGreatDoor.Am.rowsT)) (.pointer (some ⟨0, 0, none⟩))) (hrT1 : Go.Proofs.YtpchdjdochkjpaaGreatDoor.Am.F w (Go.Proofs.YtpchdjdochkjpaaGreatDoor.Am.old w) (.fptr (.agg Go.Proofs.YtpchdjdochkjpaaGreatDoor.Am.pfxT)) (.pointer (some ⟨1, 0, none⟩))) :
    Calls Tryz.prog 5 #[.int .u16 a0, .int .u16 a1] w fun e w' => e = .returned (.bool true) ∧ Below w.heap.size w w' := by
  obtain ⟨k, h⟩ := P a0 a1 w0 w1
  have H := steelyardlaw12_UnitNames.holds k a0 a1 true h
  refine calls_of_holds H w [.int .u16 a0, .int .u16 a1] ?_ ?_
  · intro g hg
    unfold G0 at hg ⊢
    by_cases c0 : g = 0
    · subst c0; simp only [reduceIte, Nat.reduceEqDiff]; exact hrT0
    by_cases c1 : g = 1
    · subst c1; simp only [reduceIte, Nat.reduceEqDiff]; exact hrT1
    · exact absurd (by simp [c0, c1]) hg
  · repeat' first
      | exact Pw.nil
      | refine Pw.cons (.f _ _ ?_) ?_
      | exact .bool _
      | exact .int _ _
      | exact .str _
      | with_reducible assumption
      | refine F_agg ?_
      | exact Fl.nil
      | refine Fl.cons ?_ rfl ?_
end Go.Proofs.YtpchdjdochkjpaaGreatDoor.P

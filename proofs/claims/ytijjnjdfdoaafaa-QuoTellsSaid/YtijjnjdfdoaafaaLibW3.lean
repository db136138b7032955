/- The look whether package quo wakes: it does. -/
import Derived.Test.YtijjnjdfdoaafaaLibF
import Derived.Test.YtijjnjdfdoaafaaPxsteelyardlaw03
set_option linter.unusedVariables false
set_option linter.unusedSimpArgs false
namespace Go.Proofs.Ytijjnjdfdoaafaa.Lib
open Go.RowKit Go.Proofs.YtijjnjdfdoaafaaW.PrintWords Go.Proofs.YtijjnjdfdoaafaaW.PrintMore Go.Proofs.Ytijjnjdfdoaafaa.P
theorem wakes3 : Ev (fun k => steelyardlaw03_wakes.f k) true := Ev.of (k := 100) (fun k => steelyardlaw03_wakes.mono k) (by decide +kernel)
theorem bl_iff {x : Nat} : ((bl x : Nat) : Int) = 0 ↔ x = 0 := by
  constructor
  · intro h
    rcases Nat.eq_zero_or_pos x with h0 | h0
    · exact h0
    · have := bl_pos (show x ≠ 0 by omega)
      omega
  · intro h; rw [h]; rfl
theorem L_len_eq {x : Nat} : (((L x).length : Nat) : Int) = 0 ↔ x = 0 := by
  constructor
  · intro h; exact L_len_zero.1 (by omega)
  · intro h; rw [h, L_zero]; rfl
end Go.Proofs.Ytijjnjdfdoaafaa.Lib

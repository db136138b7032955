/- The printed functions of package mul, said for the laws; the look whether the package wakes: it does. -/
import Derived.Test.YtijjnjdfdoaafaaDoorLibN
import Derived.Test.YtijjnjdfdoaafaaDoorLibC
set_option linter.unusedVariables false
set_option linter.unusedSimpArgs false
namespace Go.Proofs.YtijjnjdfdoaafaaDoor.Lib
open Go.RowKit Go.Proofs.YtijjnjdfdoaafaaDoorW.PrintWords Go.Proofs.YtijjnjdfdoaafaaDoorW.PrintMore Go.Proofs.YtijjnjdfdoaafaaDoor.P
section
variable {m p n x y : Nat} {l a b : List Int}
theorem Mul_to (sa : S m a) (sb : S p b) (hm : m + p ≤ 1000000) (h : V a * V b = n) : Ev (fun k => mul_Of.f k a b) (L n) := by
  have h1 := sa.2
  have h2 := sb.2
  exact h ▸ MulOf_spec sa.1 sb.1 (by omega)
theorem Small_to (sa : S m a) (hm : m < 1000000) {v : Int} (h0 : 0 ≤ v) (h1 : v < 4294967296) (h : V a * v.toNat = n) : Ev (fun k => mul_Small.f k a v) (L n) := h ▸ MulSmall_spec sa.1 (Nat.lt_of_le_of_lt sa.2 hm) h0 h1
theorem shf_up (x k : Nat) (hk : k ≤ 8192) : shf x (k : Int) = x * 2 ^ k := by
  unfold shf
  rw [if_pos (by omega), Int.toNat_natCast, Nat.min_eq_left hk]
theorem shf_down (x k : Nat) (hk : k ≤ 8192) (h0 : 0 < k) : shf x (-(k : Int)) = x / 2 ^ k := by
  unfold shf
  rw [if_neg (by omega), if_neg (by omega), show (-(-(k : Int))).toNat = k by omega]
theorem shf_down' (x k : Nat) (hk : k ≤ 8192) : shf x (-(k : Int)) = x / 2 ^ k := by
  rcases Nat.eq_zero_or_pos k with h | h
  · subst h
    have := shf_up x 0 (by omega)
    rw [Nat.pow_zero, Nat.mul_one] at this
    rw [Nat.pow_zero, Nat.div_one]
    exact this
  · exact shf_down x k hk h
theorem S_V (n : Nat) (h : n < Bp m) : S m (L n) := S_L h
end
theorem V_lits (l : List Int) (n : Nat) (h : W l) (hv : V l = n) (hlast : U l = l.length) : l = L n := by
  have := take_U h
  rw [hlast, List.take_length, hv] at this
  exact this
theorem L_of {l : List Int} {n : Nat} (h : L n = l) : L n = l := h
theorem L_two {n : Nat} (h0 : n / 4294967296 ≠ 0) (h1 : n < 18446744073709551616) : L n = [((n % 4294967296 : Nat) : Int), ((n / 4294967296 : Nat) : Int)] := by
  rw [L_pos (by omega), L_one h0 (by omega)]
theorem one_lt_Bp {m : Nat} (h : 1 ≤ m) : 1 < Bp m := lt_up (m := 1) (by rw [show Bp 1 = 4294967296 from rfl]; omega) h
theorem two_pow_big {m n : Nat} (h : 32 * m ≤ n) : ¬ 2 ^ n < Bp m := by
  unfold Bp
  rw [pow32]
  exact Nat.not_lt.2 (Nat.pow_le_pow_right (by omega) h)
end Go.Proofs.YtijjnjdfdoaafaaDoor.Lib

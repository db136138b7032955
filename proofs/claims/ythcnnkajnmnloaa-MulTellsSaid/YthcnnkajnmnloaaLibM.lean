/- The printed functions of package mul, said for the laws; the look whether the package wakes: it does. -/
import Derived.Test.YthcnnkajnmnloaaLibN
import Derived.Test.YthcnnkajnmnloaaLibC
import Derived.Test.YthcnnkajnmnloaaPxsteelyardlaw02
set_option linter.unusedVariables false
set_option linter.unusedSimpArgs false
namespace Go.Proofs.Ythcnnkajnmnloaa.Lib
open Go.RowKit Go.Proofs.YthcnnkajnmnloaaW.PrintWords Go.Proofs.YthcnnkajnmnloaaW.PrintMore Go.Proofs.Ythcnnkajnmnloaa.P
section
variable {m p n x y : Nat} {l a b : List Int}
theorem Mul_to (sa : S m a) (sb : S p b) (hm : m + p ≤ 1000000) (h : V a * V b = n) : Ev (fun k => mul_Of.f k a b) (L n) := by
  have h1 := sa.2
  have h2 := sb.2
  exact h ▸ MulOf_spec sa.1 sb.1 (by omega)
theorem Small_to (sa : S m a) (hm : m < 1000000) {v : Int} (h0 : 0 ≤ v) (h1 : v < 4294967296) (h : V a * v.toNat = n) : Ev (fun k => mul_Small.f k a v) (L n) := h ▸ MulSmall_spec sa.1 (Nat.lt_of_le_of_lt sa.2 hm) h0 h1
theorem Shift_to (sa : S m a) (hm : m ≤ 900000) {v : Int} (h0 : -9223372036854775808 ≤ v) (h1 : v < 9223372036854775808) (h : shf (V a) v = n) : Ev (fun k => mul_Shift.f k a v) (L n) := h ▸ Shift_spec sa.1 (Nat.le_trans sa.2 hm) h0 h1
theorem shf_up (x k : Nat) (hk : k ≤ 8192) : shf x (k : Int) = x * 2 ^ k := by
  unfold shf
  rw [if_pos (by omega), Int.toNat_natCast, Nat.min_eq_left hk]
theorem shf_down (x k : Nat) (hk : k ≤ 8192) (h0 : 0 < k) : shf x (-(k : Int)) = x / 2 ^ k := by
  unfold shf
  rw [if_neg (by omega), if_neg (by omega), show (-(-(k : Int))).toNat = k by omega]
theorem shf_down' (x k : Nat) (hk : k ≤ 8192) : shf x (-(k : Int)) = x / 2 ^ k := by
  rcases Nat.eq_zero_or_pos k with h | h
  · subst h
    have := shf_up x 0 (by omega)
    rw [Nat.pow_zero, Nat.mul_one] at this
    rw [Nat.pow_zero, Nat.div_one]
    exact this
  · exact shf_down x k hk h
theorem Pow_to (sa : S m a) (hm : m ≤ 300000) {v : Int} (h1 : v < 9223372036854775808) (h0 : 0 ≤ v) (h : V a ^ v.toNat = n) (hb : n < Bp 256) : Ev (fun k => mul_Pow.f k a v) (L n, true) := by
  have := Pow_spec sa.1 (Nat.le_trans sa.2 hm) (n := v) (by omega) h1
  rw [if_neg (by omega)] at this
  unfold powR at this
  rw [h, if_pos (show n < 4294967296 ^ 256 from hb)] at this
  exact this
theorem Pow_no (sa : S m a) (hm : m ≤ 300000) {v : Int} (h1 : v < 9223372036854775808) (h0 : -9223372036854775808 ≤ v) (h : v < 0 ∨ ¬ V a ^ v.toNat < Bp 256) : Ev (fun k => mul_Pow.f k a v) ([], false) := by
  have := Pow_spec sa.1 (Nat.le_trans sa.2 hm) (n := v) h0 h1
  by_cases c : v < 0
  · rw [if_pos c] at this; exact this
  · rw [if_neg c] at this
    unfold powR at this
    rw [if_neg (show ¬ V a ^ v.toNat < 4294967296 ^ 256 from h.resolve_left c)] at this
    exact this
theorem S_V (n : Nat) (h : n < Bp m) : S m (L n) := S_L h
end
theorem V_lits (l : List Int) (n : Nat) (h : W l) (hv : V l = n) (hlast : U l = l.length) : l = L n := by
  have := take_U h
  rw [hlast, List.take_length, hv] at this
  exact this
theorem L_of {l : List Int} {n : Nat} (h : L n = l) : L n = l := h
theorem L_two {n : Nat} (h0 : n / 4294967296 ≠ 0) (h1 : n < 18446744073709551616) : L n = [((n % 4294967296 : Nat) : Int), ((n / 4294967296 : Nat) : Int)] := by
  rw [L_pos (by omega), L_one h0 (by omega)]
theorem one_lt_Bp {m : Nat} (h : 1 ≤ m) : 1 < Bp m := lt_up (m := 1) (by rw [show Bp 1 = 4294967296 from rfl]; omega) h
theorem two_pow_big {m n : Nat} (h : 32 * m ≤ n) : ¬ 2 ^ n < Bp m := by
  unfold Bp
  rw [pow32]
  exact Nat.not_lt.2 (Nat.pow_le_pow_right (by omega) h)
theorem wakes2 : Ev (fun k => steelyardlaw02_wakes.f k) true := by
  have s10 : S 1 (L 10) := S_L (by decide)
  have s2 : S 1 (L 2) := S_L (by decide)
  have s5 : S 1 (L 5) := S_L (by decide)
  have s3 : S 1 (L 3) := S_L (by decide)
  have sm : S 1 (L 4294967295) := S_L (by decide)
  unfold steelyardlaw02_wakes.f
  refine Ev.bind (Of_to (by omega) (by omega) (n := 10) rfl) ?_
  refine Ev.bind (Pow_to s10 (by omega) (by omega) (by omega) (n := 100000000000000000000) (by rw [V_L]; rfl) (lt_up (m := 3) (by decide) (by omega))) ?_
  refine Ev.bind (Of_to (by omega) (by omega) (n := 10) rfl) ?_
  refine Ev.bind (Pow_no s10 (by omega) (by omega) (by omega) (.inl (by omega))) ?_
  refine Ev.bind (Of_to (by omega) (by omega) (n := 2) rfl) ?_
  refine Ev.bind (Pow_no s2 (by omega) (by omega) (by omega) (.inr (by rw [V_L]; exact two_pow_big (by decide)))) ?_
  refine Ev.bind (Pow_to (m := 0) S_nil (by omega) (by omega) (by omega) (n := 1) rfl (one_lt_Bp (by omega))) ?_
  refine Ev.bind (Of_to (by omega) (by omega) (n := 4294967295) rfl) (Ev.bind (Of_to (by omega) (by omega) (n := 4294967295) rfl) ?_)
  refine Ev.bind (Mul_to sm sm (by omega) (n := 18446744065119617025) (by rw [V_L])) ?_
  refine Ev.bind (keep_to (m := 2) (S_L (by decide)) (by omega) (by rw [L_two (by decide) (by decide)]; rfl)) (Ev.ifp rfl (Ev.ifp rfl ?_))
  refine Ev.bind (keep_to (m := 3) (S_L (by decide)) (by omega) (by rw [L_pos (by decide), L_two (by decide) (by decide)]; rfl)) (Ev.ifp rfl (Ev.ifn (by decide) (Ev.ifn (by decide) (Ev.ifp rfl ?_))))
  refine Ev.bind (keep_to (m := 1) (S_L (by decide)) (by omega) (by rw [L_one (by decide) (by decide)]; rfl)) (Ev.ifp rfl ?_)
  refine Ev.bind (Of_to (by omega) (by omega) (n := 5) rfl) (Ev.bind (Shift_to s5 (by omega) (by omega) (by omega) (n := 42949672960) (by rw [V_L]; exact shf_up 5 33 (by omega))) ?_)
  refine Ev.bind (keep_to (m := 2) (S_L (by decide)) (by omega) (by rw [L_two (by decide) (by decide)]; rfl)) (Ev.ifp rfl ?_)
  refine Ev.bind (Of_to (by omega) (by omega) (n := 5) rfl) (Ev.bind (Shift_to s5 (by omega) (by omega) (by omega) (n := 2) (by rw [V_L]; exact shf_down 5 1 (by omega) (by omega))) ?_)
  refine Ev.bind (keep_to (m := 1) (S_L (by decide)) (by omega) (by rw [L_one (by decide) (by decide)]; rfl)) (Ev.ifp rfl ?_)
  refine Ev.bind (Of_to (by omega) (by omega) (n := 3) rfl) (Ev.bind (Small_to s3 (by omega) (by omega) (by omega) (n := 21) (by rw [V_L]; rfl)) ?_)
  exact Ev.bind (keep_to (m := 1) (S_L (by decide)) (by omega) (by rw [L_one (by decide) (by decide)]; rfl)) (Ev.now _)
end Go.Proofs.Ythcnnkajnmnloaa.Lib

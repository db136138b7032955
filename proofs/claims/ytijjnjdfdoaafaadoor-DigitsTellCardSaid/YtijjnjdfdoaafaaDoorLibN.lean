/- The printed functions of package nat, said for the laws: of numbers whose worth is known. -/
import Derived.Test.YtijjnjdfdoaafaaDoorLibC0
set_option linter.unusedVariables false
set_option linter.unusedSimpArgs false
namespace Go.Proofs.YtijjnjdfdoaafaaDoor.Lib
open Go.RowKit Go.Proofs.YtijjnjdfdoaafaaDoorW.PrintWords Go.Proofs.YtijjnjdfdoaafaaDoorW.PrintMore Go.Proofs.YtijjnjdfdoaafaaDoor.P

/-- 2 to the 32 times m, under a name that nothing reckons out. -/
def Bp (m : Nat) : Nat := 4294967296 ^ m
/-- Limbs, at most m of them. -/
def S (m : Nat) (l : List Int) : Prop := W l ∧ l.length ≤ m
section
variable {m p n x y : Nat} {l a b : List Int}
theorem S.v (h : S m l) : V l < Bp m := G_V h.1 h.2
theorem S.g (h : S m l) (hm : m ≤ 1000000) : G l := ⟨h.1, Nat.le_trans h.2 hm⟩
theorem S.up (h : S m l) (hm : m ≤ p) : S p l := ⟨h.1, Nat.le_trans h.2 hm⟩
theorem S_L (h : n < Bp m) : S m (L n) := ⟨W_L n, L_len_le h⟩
theorem S_nil : S m [] := ⟨W_nil, by simp⟩
theorem S_of (h : W l) (hl : ¬ (l.length : Int) > m) : S m l := ⟨h, by omega⟩
theorem S_one {v : Int} (h0 : 0 ≤ v) (h1 : v < 4294967296) (hm : 1 ≤ m) : S m [v] := ⟨by rw [W_cons]; exact ⟨⟨h0, h1⟩, W_nil⟩, by simpa using hm⟩
theorem Bp_le (h : m ≤ n) : Bp m ≤ Bp n := pow_le h
theorem Bp_pos : 0 < Bp m := pow_pos m
theorem lt_up (h : x < Bp m) (k : m ≤ n) : x < Bp n := Nat.lt_of_lt_of_le h (Bp_le k)
theorem lt_add (h : x < Bp m) (k : y < Bp m) (hp : m < p) : x + y < Bp p := by
  refine lt_up (m := m + 1) ?_ (by omega)
  have e : Bp (m + 1) = Bp m * 4294967296 := Nat.pow_succ _ _
  rw [e]
  generalize Bp m = q at *
  omega
theorem lt_mul (h : x < Bp m) (k : y < Bp n) (hp : m + n ≤ p) : x * y < Bp p := lt_up (m := m + n) (mul_lt h k) hp
theorem lt_le (h : y < Bp m) (k : x ≤ y) : x < Bp m := Nat.lt_of_le_of_lt k h
theorem lt_num (h : x < 18446744073709551616) (hm : 2 ≤ m) : x < Bp m := lt_up (m := 2) (by rw [show Bp 2 = 18446744073709551616 from rfl]; exact h) hm

theorem bl_Bp (h : x < Bp m) : bl x ≤ 32 * m := bl_le_iff.2 (by rw [← pow32]; exact h)
theorem bl_S (s : S m l) : bl (V l) ≤ 32 * m := bl_Bp s.v
theorem two_lt {i : Nat} (h : i < 32 * m) : 2 ^ i < Bp m := by
  unfold Bp
  rw [pow32]
  exact Nat.pow_lt_pow_right (by omega) h
theorem Add_to (sa : S m a) (sb : S m b) (hm : m < 1000000) (h : V a + V b = n) : Ev (fun k => nat_Add.f k a b) (L n) := h ▸ Add_spec (sa.g (by omega)) (sb.g (by omega)) (Nat.lt_of_le_of_lt sa.2 hm) (Nat.lt_of_le_of_lt sb.2 hm)
theorem Cmp_to (sa : S m a) (sb : S m b) (hm : m ≤ 1000000) {c : Int} (h : cmpI (V a) (V b) = c) : Ev (fun k => nat_Cmp.f k a b) c := h ▸ Cmp_spec (sa.g hm) (sb.g hm)
theorem Trim_to (sa : S m a) (hm : m ≤ 1000000) (h : V a = n) : Ev (fun k => nat_Trim.f k a) (L n) := h ▸ Trim_spec (sa.g hm)
theorem Of_to {v : Int} (h0 : 0 ≤ v) (h1 : v < 18446744073709551616) (h : v.toNat = n) : Ev (fun k => nat_Of.f k v) (L n) := h ▸ Of_spec h0 h1
theorem keep_to (sa : S m a) (hm : m ≤ 1000000) (h : a = b) : Ev (fun k => steelyardkeep_Nat.f k a b) true := by
  have := keep_spec (b := b) (Nat.le_trans sa.2 hm)
  rw [decide_eq_true h] at this
  exact this
theorem keep_iff (sa : S m a) (hm : m ≤ 1000000) {q : Prop} [Decidable q] (h : a = b ↔ q) : Ev (fun k => steelyardkeep_Nat.f k a b) (decide q) := by
  have := keep_spec (b := b) (Nat.le_trans sa.2 hm)
  rw [show decide (a = b) = decide q from decide_eq_decide.2 h] at this
  exact this
end
theorem cmpI_range (x y : Nat) : cmpI x y = -1 ∧ x < y ∨ cmpI x y = 0 ∧ x = y ∨ cmpI x y = 1 ∧ y < x := by
  unfold cmpI
  by_cases h : x < y
  · rw [if_pos h]; exact .inl ⟨rfl, h⟩
  · rw [if_neg h]
    by_cases h2 : y < x
    · rw [if_pos h2]; exact .inr (.inr ⟨rfl, h2⟩)
    · rw [if_neg h2]; exact .inr (.inl ⟨rfl, by omega⟩)
end Go.Proofs.YtijjnjdfdoaafaaDoor.Lib

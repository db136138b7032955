/- What the printed functions of package nat come to: the canonical limbs of the Nat that the law speaks of. -/
import Derived.Test.YtijjnjdfdoaafaaDoorLibA
import Derived.Test.YtijjnjdfdoaafaaDoorPxnat
set_option linter.unusedVariables false
set_option linter.unusedSimpArgs false
namespace Go.Proofs.YtijjnjdfdoaafaaDoor.Lib
open Go.RowKit Go.Proofs.YtijjnjdfdoaafaaDoorW.PrintWords Go.Proofs.YtijjnjdfdoaafaaDoorW.PrintMore Go.Proofs.YtijjnjdfdoaafaaDoor.P

theorem rd_nat (l : List Int) (i : Nat) : rd l (i : Int) = l.getD i 0 := rfl
theorem w64_succ {i : Nat} (h : i < 9223372036854775807) : wrap64 ((i : Int) + 1) = ((i + 1 : Nat) : Int) := by rw [w64 (by omega) (by omega)]; omega
theorem w64_pred {i : Nat} (h0 : 0 < i) (h : i < 9223372036854775807) : wrap64 ((i : Int) - 1) = ((i - 1 : Nat) : Int) := by rw [w64 (by omega) (by omega)]; omega

/-! ### used, Trim, Of -/
theorem used_spec {l : List Int} (hG : G l) : Ev (fun k => nat_used.f k l) (U l : Int) := by
  obtain ⟨h, hl⟩ := hG
  have hU := U_le h
  have key : ∀ d i : Nat, i = U l + d → i ≤ l.length → Ev (fun k => nat_used.l0 k l (i : Int)) (U l : Int) := by
    intro d
    induction d with
    | zero =>
      intro i hi hil
      obtain rfl : i = U l := by omega
      refine Ev.succ ?_
      simp only [nat_used.l0]
      by_cases h0 : U l = 0
      · exact Ev.ifn (by omega) (Ev.now _)
      · rw [w64_pred (by omega) (by omega), rd_nat]
        exact Ev.ifp (by omega) (Ev.ifp (by omega) (Ev.ifp (by omega) (Ev.ifn (U_last h h0) (Ev.now _))))
    | succ d ih =>
      intro i hi hil
      refine Ev.succ ?_
      simp only [nat_used.l0]
      rw [w64_pred (by omega) (by omega), rd_nat]
      exact Ev.ifp (by omega) (Ev.ifp (by omega) (Ev.ifp (by omega) (Ev.ifp (tail_zero h (by omega)) (ih (i - 1) (by omega) (by omega)))))
  exact key (l.length - U l) l.length (by omega) (Nat.le_refl _)

theorem cpy_take (n : Nat) (l : List Int) (h : n ≤ l.length) : cpy (List.replicate n 0) 0 l = l.take n := by
  simp only [cpy, List.length_replicate, List.take_zero, List.nil_append, Nat.sub_zero, Nat.zero_add]
  rw [List.drop_eq_nil_of_le (by rw [List.length_replicate]; exact h), List.append_nil]

theorem Trim_spec {l : List Int} (hG : G l) : Ev (fun k => nat_Trim.f k l) (L (V l)) := by
  have hU := U_le hG.1
  have hl := hG.2
  unfold nat_Trim.f
  refine Ev.bind (used_spec hG) (Ev.ifp (by omega) (Ev.ifp (by omega) (Ev.const ?_)))
  rw [Int.toNat_natCast, cpy_take _ _ hU, take_U hG.1]

theorem Of_spec {v : Int} (h0 : 0 ≤ v) (h1 : v < 18446744073709551616) : Ev (fun k => nat_Of.f k v) (L v.toNat) := by
  have hW : W [v % 4294967296, (v / 4294967296) % 4294967296] := by
    rw [W_cons, W_cons]
    exact ⟨by omega, by omega, W_nil⟩
  have hV : V [v % 4294967296, (v / 4294967296) % 4294967296] = v.toNat := by
    simp only [V_cons, V_nil]
    omega
  unfold nat_Of.f
  refine Ev.bind (Trim_spec ⟨hW, by simp⟩) ?_
  rw [hV]
  exact Ev.now _

/-! ### Cmp -/
theorem compare_int (a b : Int) : cmp_Compare_int.f a b = some (if a < b then -1 else if a > b then 1 else 0) := by
  simp only [cmp_Compare_int.f, cmp_isNaN_int.f, bne_self_eq_false, Option.bind_some, if_neg (show ¬ (false = true) by decide)]
  split
  · rfl
  · split <;> rfl
theorem compare_u32 (a b : Int) : cmp_Compare_uint32.f a b = some (if a < b then -1 else if a > b then 1 else 0) := by
  simp only [cmp_Compare_uint32.f, cmp_isNaN_uint32.f, bne_self_eq_false, Option.bind_some, if_neg (show ¬ (false = true) by decide)]
  split
  · rfl
  · split <;> rfl

theorem cmp_step {x y p a b : Nat} (hx : x < p) (hy : y < p) (h : a < b) : x + p * a < y + p * b := by
  have : p * (a + 1) ≤ p * b := Nat.mul_le_mul_left _ h
  rw [Nat.mul_add] at this
  omega
theorem V_take_lt {l : List Int} (h : W l) (i : Nat) : V (l.take i) < 4294967296 ^ i := Nat.lt_of_lt_of_le (V_lt (W_take h i)) (pow_le (by rw [List.length_take]; omega))
theorem V_ge {l : List Int} (h0 : U l ≠ 0) : 4294967296 ^ (U l - 1) ≤ V l := by
  rcases Nat.lt_or_ge (V l) (4294967296 ^ (U l - 1)) with h | h
  · have := L_len_le h
    have e : (L (V l)).length = U l := rfl
    omega
  · exact h
theorem V_lt_U {l : List Int} : V l < 4294967296 ^ U l := lt_of_len (Nat.le_refl _)
theorem cmpI_lt {x y : Nat} (h : x < y) : cmpI x y = -1 := by unfold cmpI; rw [if_pos h]
theorem cmpI_gt {x y : Nat} (h : y < x) : cmpI x y = 1 := by unfold cmpI; rw [if_neg (by omega), if_pos h]
theorem cmpI_eq (x : Nat) : cmpI x x = 0 := by unfold cmpI; rw [if_neg (by omega), if_neg (by omega)]

theorem cmpI_add (x y z : Nat) : cmpI (x + z) (y + z) = cmpI x y := by
  unfold cmpI
  by_cases h : x < y
  · rw [if_pos h, if_pos (by omega)]
  · rw [if_neg h, if_neg (by omega)]
    by_cases h2 : y < x
    · rw [if_pos h2, if_pos (by omega)]
    · rw [if_neg h2, if_neg (by omega)]
theorem carry_zero {p c x y : Nat} (h : x + p * c = y) (hy : y < p) : c = 0 := by
  rcases Nat.eq_zero_or_pos c with h0 | h0
  · exact h0
  · have := Nat.mul_le_mul_left p h0
    omega

theorem Cmp_spec {a b : List Int} (ha : G a) (hb : G b) : Ev (fun k => nat_Cmp.f k a b) (cmpI (V a) (V b)) := by
  have hUa := U_le ha.1
  have hUb := U_le hb.1
  have hla := ha.2
  have hlb := hb.2
  have key : ∀ i : Nat, i ≤ a.length → i ≤ b.length → Ev (fun k => nat_Cmp.l0 k a b ((i : Int) - 1)) (cmpI (V (a.take i)) (V (b.take i))) := by
    intro i
    induction i with
    | zero =>
      intro _ _
      refine Ev.succ ?_
      simp only [nat_Cmp.l0]
      refine Ev.ifn (by omega) ?_
      simp only [List.take_zero, cmpI_eq]
      exact Ev.now _
    | succ i ih =>
      intro h1 h2
      refine Ev.succ ?_
      simp only [nat_Cmp.l0]
      rw [show (((i + 1 : Nat) : Int) - 1) = (i : Int) by omega, rd_nat, rd_nat, compare_u32]
      refine Ev.ifp (by omega) (Ev.ifp (by omega) (Ev.ifp (by omega) (Ev.ifp (by omega) ?_)))
      simp only [Option.bind_some]
      have g1 := W_get ha.1 i
      have g2 := W_get hb.1 i
      have t1 := V_take_lt ha.1 i
      have t2 := V_take_lt hb.1 i
      rw [V_take_succ, V_take_succ]
      by_cases c1 : a.getD i 0 < b.getD i 0
      · rw [if_pos c1, cmpI_lt (cmp_step t1 t2 (by omega))]
        exact Ev.ifn (by omega) (Ev.now _)
      · by_cases c2 : a.getD i 0 > b.getD i 0
        · rw [if_neg c1, if_pos c2, cmpI_gt (cmp_step t2 t1 (by omega))]
          exact Ev.ifn (by omega) (Ev.now _)
        · rw [if_neg c1, if_neg c2]
          refine Ev.ifp rfl ?_
          rw [w64 (by omega) (by omega)]
          have e : (a.getD i 0).toNat = (b.getD i 0).toNat := by omega
          rw [e, cmpI_add]
          exact ih (by omega) (by omega)
  unfold nat_Cmp.f
  refine Ev.bind (used_spec ha) (Ev.bind (used_spec hb) ?_)
  rw [compare_int]
  simp only [Option.bind_some]
  by_cases c1 : U a < U b
  · rw [if_pos (by omega)]
    refine Ev.ifn (by omega) ?_
    rw [cmpI_lt]
    · exact Ev.now _
    · exact Nat.lt_of_lt_of_le (Nat.lt_of_lt_of_le V_lt_U (pow_le (by omega))) (V_ge (by omega))
  · by_cases c2 : U b < U a
    · rw [if_neg (by omega), if_pos (by omega)]
      refine Ev.ifn (by omega) ?_
      rw [cmpI_gt]
      · exact Ev.now _
      · exact Nat.lt_of_lt_of_le (Nat.lt_of_lt_of_le V_lt_U (pow_le (by omega))) (V_ge (by omega))
    · rw [if_neg (by omega), if_neg (by omega)]
      refine Ev.ifp rfl ?_
      rw [w64 (by omega) (by omega)]
      refine Ev.eq (key (U a) hUa (by omega)) ?_
      rw [V_take_ge ha.1 (Nat.le_refl _), show U a = U b by omega, V_take_ge hb.1 (Nat.le_refl _)]

/-! ### Add -/
theorem at_spec (l : List Int) (i : Nat) : nat_at.f l (i : Int) = some (l.getD i 0) := by
  unfold nat_at.f
  by_cases h : i < l.length
  · rw [if_pos (by omega), if_pos (by omega), rd_nat]
  · rw [if_neg (by omega), List.getD_eq_getElem?_getD, List.getElem?_eq_none (by omega)]
    rfl
theorem Add32_spec {a b c : Int} (ha : 0 ≤ a ∧ a < 4294967296) (hb : 0 ≤ b ∧ b < 4294967296) (hc : 0 ≤ c ∧ c ≤ 1) : bits_Add32.f a b c = some ((a + b + c) % 4294967296, (a + b + c) / 4294967296) := by
  unfold bits_Add32.f
  rw [wu64 (x := a) (by omega) (by omega), wu64 (x := b) (by omega) (by omega), wu64 (x := c) (by omega) (by omega), wu64 (x := a + b) (by omega) (by omega), wu64 (x := a + b + c) (by omega) (by omega)]
  congr 2
  omega

theorem Add_loop {a b : List Int} (ha : W a) (hb : W b) (n : Nat) (hn : n ≤ 1000000) (hlt : V (a.take n) + V (b.take n) < 4294967296 ^ n) : ∀ d i (out : List Int) (c : Int), n = i + d → out.length = n → W out → 0 ≤ c ∧ c ≤ 1 →
    V (out.take i) + 4294967296 ^ i * c.toNat = V (a.take i) + V (b.take i) → Ev (fun k => nat_Add.l0 k a b out c (n : Int) (i : Int)) (L (V (a.take n) + V (b.take n))) := by
  intro d
  induction d with
  | zero =>
    intro i out c hi ho hw hc hv
    obtain rfl : n = i := by omega
    refine Ev.succ ?_
    simp only [nat_Add.l0]
    refine Ev.ifn (by omega) ?_
    have hc0 : c.toNat = 0 := carry_zero hv hlt
    have hv2 : V out = V (a.take n) + V (b.take n) := by
      rw [← hv, hc0, V_take_all out (by omega), Nat.mul_zero, Nat.add_zero]
    refine Ev.bind (Trim_spec ⟨hw, by omega⟩) ?_
    rw [hv2]
    exact Ev.now _
  | succ d ih =>
    intro i out c hi ho hw hc hv
    refine Ev.succ ?_
    simp only [nat_Add.l0, at_spec, Option.bind_some]
    have g1 := W_get ha i
    have g2 := W_get hb i
    rw [Add32_spec g1 g2 hc]
    simp only [Option.bind_some]
    refine Ev.ifp (by omega) (Ev.ifp (by omega) (Ev.ifp (by omega) ?_))
    rw [w64_succ (by omega), Int.toNat_natCast]
    refine ih (i + 1) _ _ (by omega) (by rw [List.length_set]; exact ho) (W_set hw i (by omega) (by omega)) (by omega) ?_
    rw [V_take_set _ _ _ (by omega), V_take_succ, V_take_succ, Nat.pow_succ]
    generalize 4294967296 ^ i = p at *
    have e1 : a.getD i 0 + b.getD i 0 + c = 4294967296 * ((a.getD i 0 + b.getD i 0 + c) / 4294967296) + (a.getD i 0 + b.getD i 0 + c) % 4294967296 := by omega
    have e2 : (a.getD i 0).toNat + (b.getD i 0).toNat + c.toNat = 4294967296 * ((a.getD i 0 + b.getD i 0 + c) / 4294967296).toNat + ((a.getD i 0 + b.getD i 0 + c) % 4294967296).toNat := by omega
    have e3 := congrArg (p * ·) e2
    simp only [Nat.mul_add] at e3
    rw [Nat.mul_assoc p 4294967296]
    omega

theorem Add_spec {a b : List Int} (ha : G a) (hb : G b) (hla : a.length < 1000000) (hlb : b.length < 1000000) : Ev (fun k => nat_Add.f k a b) (L (V a + V b)) := by
  have hUa := U_le ha.1
  have hUb := U_le hb.1
  unfold nat_Add.f
  refine Ev.bind (used_spec ha) (Ev.bind (used_spec hb) ?_)
  rw [mx_nat, w64_succ (by omega), Int.toNat_natCast]
  refine Ev.ifp (by omega) (Ev.ifp (by omega) ?_)
  simp only [Option.bind_some, List.length_replicate]
  have ea := V_take_ge ha.1 (i := max (U a) (U b) + 1) (by omega)
  have eb := V_take_ge hb.1 (i := max (U a) (U b) + 1) (by omega)
  have hlt := add_lt (V_lt_U (l := a)) (V_lt_U (l := b))
  have hcp : W (cpy (List.replicate (max (U a) (U b) + 1) 0) 0 a) := by
    unfold cpy
    rw [W_app, W_app]
    exact ⟨W_take (W_rep _) _, W_take ha.1 _, W_drop (W_rep _) _⟩
  have := Add_loop ha.1 hb.1 (max (U a) (U b) + 1) (by omega) (by rw [ea, eb]; exact hlt) (max (U a) (U b) + 1) 0 _ 0 (by omega) (by rw [cpy_length _ _ _ (by simp), List.length_replicate]) hcp (by omega) (by simp [V])
  rw [ea, eb] at this
  exact this

/-! ### Sub -/
theorem top_bit {x : Nat} (h : x < 4294967296) : x / 2147483648 = (x.testBit 31).toNat := by
  rw [Nat.testBit_eq_decide_div_mod_eq]
  rw [show (2 : Nat) ^ 31 = 2147483648 from rfl]
  by_cases c : x / 2147483648 % 2 = 1
  · rw [decide_eq_true c]; simp; omega
  · rw [decide_eq_false c]; simp; omega
theorem top_true {x : Nat} (h : x < 4294967296) : x.testBit 31 = decide (2147483648 ≤ x) := by
  rw [Nat.testBit_eq_decide_div_mod_eq]
  rw [show (2 : Nat) ^ 31 = 2147483648 from rfl]
  by_cases c : 2147483648 ≤ x
  · rw [decide_eq_true c, decide_eq_true (by omega)]
  · rw [decide_eq_false c, decide_eq_false (by omega)]
theorem borrow_nat (A C D c : Nat) (hA : A < 4294967296) (hC : C < 4294967296) (hD : D < 4294967296) (hc : c ≤ 1) (h : D + C + c = A ∨ D + C + c = A + 4294967296) :
    (((4294967295 ^^^ A) &&& C) ||| ((4294967295 ^^^ (A ^^^ C)) &&& D)) / 2147483648 = if A < C + c then 1 else 0 := by
  have hx : ((4294967295 ^^^ A) &&& C) ||| ((4294967295 ^^^ (A ^^^ C)) &&& D) < 4294967296 :=
    Nat.or_lt_two_pow (n := 32) (Nat.and_lt_two_pow _ hC) (Nat.and_lt_two_pow _ hD)
  rw [top_bit hx, Nat.testBit_or, Nat.testBit_and, Nat.testBit_and, Nat.testBit_xor, Nat.testBit_xor, Nat.testBit_xor, top_true hA, top_true hC, top_true hD, show Nat.testBit 4294967295 31 = true from by decide]
  by_cases a1 : 2147483648 ≤ A <;> by_cases c1 : 2147483648 ≤ C <;> by_cases d1 : 2147483648 ≤ D <;> simp only [a1, c1, d1, decide_true, decide_false, Bool.xor_true, Bool.xor_false, Bool.not_true, Bool.not_false, Bool.and_true, Bool.and_false, Bool.or_true, Bool.or_false, Bool.true_and, Bool.false_and, Bool.true_or, Bool.false_or, Bool.toNat_true, Bool.toNat_false, Bool.false_xor, Bool.true_xor] <;> split <;> omega
/-! ### Bits, Bit -/
/-- How many bits a number has. -/
def bl (n : Nat) : Nat := if n = 0 then 0 else Nat.log2 n + 1
theorem bl_zero : bl 0 = 0 := rfl
theorem bl_unique {n m : Nat} (h0 : 2 ^ m ≤ n) (h1 : n < 2 ^ (m + 1)) : bl n = m + 1 := by
  have hn : n ≠ 0 := by have := Nat.two_pow_pos m; omega
  unfold bl
  rw [if_neg hn]
  have := (Nat.le_log2 hn).2 h0
  have := (Nat.log2_lt hn).2 h1
  omega
theorem bl_lt (n : Nat) : n < 2 ^ bl n := by
  unfold bl
  split
  · omega
  · rename_i h
    exact (Nat.log2_lt h).1 (by omega)
theorem bl_le {n : Nat} (h : n ≠ 0) : 2 ^ (bl n - 1) ≤ n := by
  unfold bl
  rw [if_neg h, Nat.add_sub_cancel]
  exact (Nat.le_log2 h).1 (Nat.le_refl _)
theorem bl_pos {n : Nat} (h : n ≠ 0) : 0 < bl n := by unfold bl; rw [if_neg h]; omega
theorem bl_le_iff {n m : Nat} : bl n ≤ m ↔ n < 2 ^ m := by
  constructor
  · intro h
    exact Nat.lt_of_lt_of_le (bl_lt n) (Nat.pow_le_pow_right (by omega) h)
  · intro h
    by_cases h0 : n = 0
    · subst h0; rw [bl_zero]; omega
    · rcases Nat.lt_or_ge m (bl n) with h1 | h1
      · have h2 := bl_le h0
        have h3 : 2 ^ m ≤ 2 ^ (bl n - 1) := Nat.pow_le_pow_right (by omega) (by omega)
        omega
      · exact h1
theorem bl_shift {n k : Nat} (h : n / 2 ^ k ≠ 0) : bl n = bl (n / 2 ^ k) + k := by
  have hp := Nat.two_pow_pos k
  obtain ⟨m, hm⟩ : ∃ m, bl (n / 2 ^ k) = m + 1 := ⟨_, (Nat.succ_pred (Nat.ne_of_gt (bl_pos h))).symm⟩
  have h1 := bl_le h
  have h2 := bl_lt (n / 2 ^ k)
  rw [hm] at h1 h2 ⊢
  rw [Nat.add_sub_cancel] at h1
  rw [show m + 1 + k = (m + k) + 1 by omega]
  refine bl_unique ?_ ?_
  · rw [Nat.pow_add]
    exact Nat.le_trans (Nat.mul_le_mul_right _ h1) (Nat.div_mul_le_self _ _)
  · rw [show m + k + 1 = (m + 1) + k by omega, Nat.pow_add]
    exact (Nat.div_lt_iff_lt_mul hp).1 h2

theorem pow32 (n : Nat) : 4294967296 ^ n = 2 ^ (32 * n) := by rw [Nat.pow_mul]
theorem V_div (l : List Int) (h : W l) (i : Nat) : V l / 4294967296 ^ i = V (l.drop i) := by
  rw [V_take_add l i]
  by_cases hi : i ≤ l.length
  · rw [Nat.min_eq_left hi, Nat.add_mul_div_left _ _ (pow_pos i), Nat.div_eq_of_lt (V_take_lt h i), Nat.zero_add]
  · rw [List.drop_eq_nil_of_le (by omega), V_nil, Nat.mul_zero, Nat.add_zero]
    exact Nat.div_eq_of_lt (V_take_lt h i)
theorem testBit_V {l : List Int} (h : W l) (i : Nat) : (V l).testBit i = decide ((l.getD (i / 32) 0).toNat / 2 ^ (i % 32) % 2 = 1) := by
  rw [Nat.testBit_eq_decide_div_mod_eq]
  congr 1
  have e : V l / 2 ^ i = V (l.drop (i / 32)) / 2 ^ (i % 32) := by
    rw [← V_div l h, pow32, Nat.div_div_eq_div_mul, ← Nat.pow_add, show 32 * (i / 32) + i % 32 = i by omega]
  rw [e]
  by_cases hi : i / 32 < l.length
  · rw [V_drop_cons l hi]
    have e2 : (4294967296 : Nat) = 2 ^ (i % 32) * (2 * 2 ^ (31 - i % 32)) := by
      rw [← Nat.mul_assoc, ← Nat.pow_succ, ← Nat.pow_add, show (i % 32).succ + (31 - i % 32) = 32 by omega]
    rw [e2, Nat.mul_assoc, Nat.add_mul_div_left _ _ (Nat.two_pow_pos _), Nat.mul_assoc, Nat.add_mul_mod_self_left]
  · rw [List.drop_eq_nil_of_le (by omega), V_nil, List.getD_eq_getElem?_getD, List.getElem?_eq_none (by omega)]
    simp
end Go.Proofs.YtijjnjdfdoaafaaDoor.Lib

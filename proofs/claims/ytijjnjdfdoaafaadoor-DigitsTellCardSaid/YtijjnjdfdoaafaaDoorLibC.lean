/- What the printed functions of package mul come to. -/
import Derived.Test.YtijjnjdfdoaafaaDoorLibC0
import Derived.Test.YtijjnjdfdoaafaaDoorPxmul
set_option linter.unusedVariables false
set_option linter.unusedSimpArgs false
namespace Go.Proofs.YtijjnjdfdoaafaaDoor.Lib
open Go.RowKit Go.Proofs.YtijjnjdfdoaafaaDoorW.PrintWords Go.Proofs.YtijjnjdfdoaafaaDoorW.PrintMore Go.Proofs.YtijjnjdfdoaafaaDoor.P

/-! ### Of -/
theorem Of_inner {b r0 : List Int} (hb : W b) (hr : W r0) {x : Nat} (hx : x < 4294967296) (hlen : r0.length = b.length + 1) (hl : b.length ≤ 1000000) (out a : List Int) (na : Int) {i : Nat} (hi : i ≤ out.length) {R : List Int}
    (next : ∀ row' : List Int, row'.length = r0.length → W row' → (∃ c', V row' + 4294967296 ^ (b.length + 1) * c' = V r0 + x * V b) → Ev (fun k => mul_Of.l0 k b (cpy out i row') a na (wrap64 ((i : Int) + 1))) R) :
    ∀ d j (row : List Int) (c : Nat), b.length + 1 = j + d → row.length = r0.length → W row → c < 4294967296 → (∀ t, j ≤ t → row.getD t 0 = r0.getD t 0) →
      V (row.take j) + 4294967296 ^ j * c = V (r0.take j) + x * V (b.take j) →
      Ev (fun k => mul_Of.l1 k b out (i : Int) (x : Int) row (c : Int) a na (i : Int) ((b.length + 1 : Nat) : Int) (j : Int)) R := by
  intro d
  induction d with
  | zero =>
    intro j row c hj hrl hw hc hs hv
    refine Ev.succ ?_
    simp only [mul_Of.l1]
    refine Ev.ifn (by omega) (Ev.ifp (by omega) (Ev.ifp (by omega) ?_))
    rw [Int.toNat_natCast]
    refine next row hrl hw ⟨c, ?_⟩
    rw [V_take_all row (by omega), V_take_all r0 (by omega), V_take_all b (by omega)] at hv
    rw [← hv, show b.length + 1 = j by omega]
  | succ d ih =>
    intro j row c hj hrl hw hc hs hv
    refine Ev.succ ?_
    simp only [mul_Of.l1, rd_nat, hs j (Nat.le_refl _)]
    refine Ev.ifp (by omega) ?_
    have g1 := W_get hb j
    have g2 := W_get hr j
    obtain ⟨t, ht⟩ := Int.eq_ofNat_of_zero_le g1.1
    obtain ⟨r, hrr⟩ := Int.eq_ofNat_of_zero_le g2.1
    have hp : x * t ≤ 4294967295 * 4294967295 := Nat.mul_le_mul (by omega) (by omega)
    have fin : Ev (fun k => mul_Of.l1 k b out (i : Int) (x : Int) (row.set j (((c + x * t + r) % 4294967296 : Nat) : Int)) (((c + x * t + r) / 4294967296 : Nat) : Int) a na (i : Int) ((b.length + 1 : Nat) : Int) ((j + 1 : Nat) : Int)) R := by
      refine ih (j + 1) _ _ (by omega) (by rw [List.length_set]; exact hrl) (W_set hw j (by omega) (by omega)) (by omega) (fun t' ht' => by rw [get_set_ne _ _ (by omega)]; exact hs t' (by omega)) ?_
      rw [V_take_set _ _ _ (by omega), V_take_succ, V_take_succ, Nat.pow_succ, ht, hrr, Int.toNat_natCast, Int.toNat_natCast, Int.toNat_natCast]
      generalize 4294967296 ^ j = p at *
      have e2 : 4294967296 * ((c + x * t + r) / 4294967296) + (c + x * t + r) % 4294967296 = c + x * t + r := Nat.div_add_mod _ _
      have e3 := congrArg (p * ·) e2
      simp only [Nat.mul_add] at e3
      rw [Nat.mul_assoc p 4294967296, Nat.mul_add x, Nat.mul_left_comm x p t]
      omega
    by_cases hjb : j < b.length
    · refine Ev.ifp (by omega) (Ev.ifp (by omega) (Ev.ifp (by omega) ?_))
      rw [ht, hrr, wu64 (x := (x : Int)) (by omega) (by omega), wu64 (x := (t : Int)) (by omega) (by omega), ← Int.natCast_mul, wu64 (x := ((x * t : Nat) : Int)) (by omega) (by omega),
        ← Int.natCast_add, wu64 (x := ((c + x * t : Nat) : Int)) (by omega) (by omega), wu64 (x := (r : Int)) (by omega) (by omega), ← Int.natCast_add, wu64 (x := ((c + x * t + r : Nat) : Int)) (by omega) (by omega),
        w64_succ (by omega), Int.toNat_natCast]
      exact fin
    · refine Ev.ifn (by omega) (Ev.ifp (by omega) (Ev.ifp (by omega) ?_))
      have ht0 : t = 0 := by
        rw [List.getD_eq_getElem?_getD, List.getElem?_eq_none (by omega)] at ht
        simp at ht
        omega
      rw [hrr, wu64 (x := (r : Int)) (by omega) (by omega), ← Int.natCast_add, wu64 (x := ((c + r : Nat) : Int)) (by omega) (by omega), w64_succ (by omega), Int.toNat_natCast]
      rw [ht0, Nat.mul_zero, Nat.add_zero] at fin
      exact fin

theorem cpy_parts (out row : List Int) (i : Nat) (h : i + row.length ≤ out.length) : cpy out i row = out.take i ++ (row ++ out.drop (i + row.length)) := by
  unfold cpy
  rw [show row.take (out.length - i) = row from List.take_of_length_le (by omega)]

theorem Of_outer {a b : List Int} (ha : W a) (hb : W b) (hl : a.length + b.length ≤ 1000000) : ∀ d i (out : List Int), a.length = i + d → out.length = a.length + b.length → W out → V out = V (a.take i) * V b →
    Ev (fun k => mul_Of.l0 k b out a (a.length : Int) (i : Int)) (L (V a * V b)) := by
  intro d
  induction d with
  | zero =>
    intro i out hi ho hw hv
    refine Ev.succ ?_
    simp only [mul_Of.l0]
    refine Ev.ifn (by omega) (Ev.bind (Trim_spec ⟨hw, by omega⟩) ?_)
    rw [hv, V_take_all a (by omega)]
    exact Ev.now _
  | succ d ih =>
    intro i out hi ho hw hv
    refine Ev.succ ?_
    simp only [mul_Of.l0, rd_nat, Option.bind_some]
    have g := W_get ha i
    obtain ⟨x, hx⟩ := Int.eq_ofNat_of_zero_le g.1
    rw [w64_succ (by omega), Int.toNat_natCast, Int.toNat_natCast, hx]
    refine Ev.ifp (by omega) (Ev.ifp (by omega) (Ev.ifp (by omega) (Ev.ifp (by omega) (Ev.ifp (by omega) (Ev.ifp (by omega) ?_)))))
    rw [List.length_replicate]
    have hlen : (cpy (List.replicate (b.length + 1) 0) 0 (out.drop i)).length = b.length + 1 := by rw [cpy_length _ _ _ (by omega), List.length_replicate]
    have hr0 : cpy (List.replicate (b.length + 1) 0) 0 (out.drop i) = (out.drop i).take (b.length + 1) := cpy_take _ _ (by rw [List.length_drop]; omega)
    have hwr : W (cpy (List.replicate (b.length + 1) 0) 0 (out.drop i)) := by rw [hr0]; exact W_take (W_drop hw _) _
    refine Of_inner hb hwr (by omega) hlen (by omega) out a (a.length : Int) (by omega) (fun row hrl hrw hrv => ?_) (b.length + 1) 0 _ 0 (by omega) rfl hwr (by omega) (fun _ _ => rfl) (by simp [V])
    rw [hlen] at hrl
    obtain ⟨c', hc'⟩ := hrv
    rw [hr0] at hc'
    -- what lies in the row was below the number's own bound: no carry is left
    have hvo : V out < 4294967296 ^ (i + b.length) := by
      rw [hv]; exact mul_lt (V_take_lt ha i) (V_lt hb)
    have hdrop : V (out.drop i) < 4294967296 ^ b.length := by
      rw [← V_div out hw i]
      exact (Nat.div_lt_iff_lt_mul (pow_pos i)).2 (by rw [← Nat.pow_add, Nat.add_comm]; exact hvo)
    have htk : V ((out.drop i).take (b.length + 1)) = V (out.drop i) := by
      refine V_take_ge (W_drop hw i) ?_
      have := L_len_le hdrop
      have e : U (out.drop i) = (L (V (out.drop i))).length := rfl
      omega
    have htl : V (out.drop (i + (b.length + 1))) = 0 := by
      rw [← V_div out hw]
      exact Nat.div_eq_of_lt (lt_more hvo (by omega))
    rw [htk] at hc'
    have hxb : x * V b ≤ 4294967295 * V b := Nat.mul_le_mul_right _ (by omega)
    have hc0 : c' = 0 := by
      rcases Nat.eq_zero_or_pos c' with h | h
      · exact h
      · have h1 := Nat.mul_le_mul_left (4294967296 ^ (b.length + 1)) h
        have h2 := V_lt hb
        rw [Nat.pow_succ] at h1 hc'
        omega
    rw [hc0, Nat.mul_zero, Nat.add_zero] at hc'
    have hcp := cpy_parts out row i (by omega)
    rw [w64_succ (by omega)]
    refine ih (i + 1) _ (by omega) (by rw [cpy_length _ _ _ (by omega)]; exact ho) ?_ ?_
    · rw [hcp, W_app, W_app]
      exact ⟨W_take hw _, hrw, W_drop hw _⟩
    · rw [hcp, V_app, V_app, hrl, htl, Nat.mul_zero, Nat.add_zero, List.length_take, Nat.min_eq_left (by omega), hc', V_take_succ, hx, Int.toNat_natCast]
      have e1 := V_take_add out i
      rw [Nat.min_eq_left (by omega), hv] at e1
      rw [Nat.mul_add, ← Nat.add_assoc, ← e1, Nat.add_mul, Nat.mul_assoc]

theorem MulOf_spec {a b : List Int} (ha : W a) (hb : W b) (hl : a.length + b.length ≤ 1000000) : Ev (fun k => mul_Of.f k a b) (L (V a * V b)) := by
  have hUa := U_le ha
  have hUb := U_le hb
  have ea : (L (V a)).length = U a := rfl
  have eb : (L (V b)).length = U b := rfl
  unfold mul_Of.f
  refine Ev.bind (Trim_spec ⟨ha, by omega⟩) (Ev.bind (Trim_spec ⟨hb, by omega⟩) ?_)
  rw [← Int.natCast_add, w64 (by omega) (by omega), Int.toNat_natCast]
  refine Ev.ifp (by omega) (Ev.ifp (by omega) ?_)
  have := Of_outer (W_L (V a)) (W_L (V b)) (by omega) (L (V a)).length 0 (List.replicate ((L (V a)).length + (L (V b)).length) 0) (by omega) (by rw [List.length_replicate]) (W_rep _) (by rw [V_rep]; simp [V])
  rw [V_L, V_L] at this
  exact this

theorem W_one {v : Int} (h0 : 0 ≤ v) (h1 : v < 4294967296) : W [v] := by rw [W_cons]; exact ⟨⟨h0, h1⟩, W_nil⟩
theorem V_one (v : Int) : V [v] = v.toNat := by rw [V_cons, V_nil]; omega
theorem MulSmall_spec {a : List Int} (ha : W a) (hl : a.length < 1000000) {v : Int} (h0 : 0 ≤ v) (h1 : v < 4294967296) : Ev (fun k => mul_Small.f k a v) (L (V a * v.toNat)) := by
  unfold mul_Small.f
  refine Ev.bind (MulOf_spec ha (W_one h0 h1) (by simp; omega)) ?_
  rw [V_one]
  exact Ev.now _

/-! ### up, down, Shift -/
theorem two_split (n : Nat) : 4294967296 ^ (n / 32) * 2 ^ (n % 32) = 2 ^ n := by
  rw [pow32, ← Nat.pow_add, show 32 * (n / 32) + n % 32 = n by omega]
theorem tdiv32 (n : Nat) : Int.tdiv (n : Int) 32 = ((n / 32 : Nat) : Int) := by rw [Int.tdiv_eq_ediv_of_nonneg (by omega)]; omega
theorem tmod32 (n : Nat) : Int.tmod (n : Int) 32 = ((n % 32 : Nat) : Int) := by rw [Int.tmod_eq_emod_of_nonneg (by omega)]; omega
theorem pow_lt_32 {s : Nat} (h : s < 32) : 2 ^ s ≤ 2147483648 := by
  have : 2 ^ s ≤ 2 ^ 31 := Nat.pow_le_pow_right (by omega) (by omega)
  exact this
theorem shl_one {s : Nat} (h : s < 32) : shl .u32 1 (s : Int) = ((2 ^ s : Nat) : Int) := by
  have := pow_lt_32 h
  unfold shl
  rw [Int.toNat_natCast, Nat.min_eq_left (by show s ≤ 32; omega), Int.one_mul, IntKind.wrap_u32]
  rw [show ((2 : Int) ^ s) = ((2 ^ s : Nat) : Int) by rw [Int.natCast_pow]; rfl]
  generalize 2 ^ s = q at *
  omega
theorem or_high (h l : Nat) (hh : h < 4294967296) (hl : l < 4294967296) : Go.bits .or .u64 ((h : Int) * 4294967296) (l : Int) = ((h * 4294967296 + l : Nat) : Int) := by
  rw [show ((h : Int) * 4294967296) = ((h * 4294967296 : Nat) : Int) by omega, u64_or_nat _ _ (by omega) (by omega)]
  congr 1
  have := Nat.two_pow_add_eq_or_of_lt (i := 32) (b := l) (by omega) h
  rw [show (2 : Nat) ^ 32 = 4294967296 from rfl] at this
  rw [Nat.mul_comm h]
  exact this.symm
theorem shr_u64 (x s : Nat) (hs : s < 32) : shr .u64 (x : Int) (s : Int) = ((x / 2 ^ s : Nat) : Int) := by
  unfold shr
  rw [Int.toNat_natCast, Nat.min_eq_left (by show s ≤ 64; omega), Int.natCast_ediv, Int.natCast_pow]
  rfl
/-- A limb of a number moved down. -/
theorem down_limb {t : List Int} (ht : W t) (i s : Nat) (hs : s < 32) : V t / 2 ^ s / 4294967296 ^ i % 4294967296 = ((t.getD (i + 1) 0).toNat * 4294967296 + (t.getD i 0).toNat) / 2 ^ s % 4294967296 := by
  rw [Nat.div_div_eq_div_mul, Nat.mul_comm, ← Nat.div_div_eq_div_mul, V_div t ht i]
  have hpow : (4294967296 : Nat) = 2 ^ s * 2 ^ (32 - s) := by rw [← Nat.pow_add, show s + (32 - s) = 32 by omega]
  have key : ∀ x y z : Nat, (x + 4294967296 * (y + 4294967296 * z)) / 2 ^ s % 4294967296 = (y * 4294967296 + x) / 2 ^ s % 4294967296 := by
    intro x y z
    have e : x + 4294967296 * (y + 4294967296 * z) = (y * 4294967296 + x) + 2 ^ s * (2 ^ (32 - s) * z * 4294967296) := by
      have e2 : 2 ^ s * (2 ^ (32 - s) * z * 4294967296) = 4294967296 * (z * 4294967296) := by
        rw [← Nat.mul_assoc, ← Nat.mul_assoc, ← hpow, Nat.mul_assoc]
      rw [e2, Nat.mul_add, Nat.mul_comm y, Nat.mul_comm z]
      omega
    rw [e, Nat.add_mul_div_left _ _ (Nat.two_pow_pos _), Nat.add_mul_mod_self_right]
  by_cases h1 : i < t.length
  · rw [V_drop_cons t h1]
    by_cases h2 : i + 1 < t.length
    · rw [V_drop_cons t h2]; exact key _ _ _
    · rw [List.drop_eq_nil_of_le (by omega), V_nil]
      rw [show t.getD (i + 1) 0 = 0 by rw [List.getD_eq_getElem?_getD, List.getElem?_eq_none (by omega)]; rfl]
      simp
  · rw [List.drop_eq_nil_of_le (by omega), V_nil, show t.getD (i + 1) 0 = 0 by rw [List.getD_eq_getElem?_getD, List.getElem?_eq_none (by omega)]; rfl, show t.getD i 0 = 0 by rw [List.getD_eq_getElem?_getD, List.getElem?_eq_none (by omega)]; rfl]
    simp

/-- What a number moved by n bits is worth. -/
def shf (x : Nat) (n : Int) : Nat := if n ≥ 0 then x * 2 ^ (min n.toNat 8192) else if n < -8192 then 0 else x / 2 ^ (-n).toNat
/-! ### Pow -/
/-- A power, if it fits. -/
def powR (A n : Nat) : List Int × Bool := if A ^ n < 4294967296 ^ 256 then (L (A ^ n), true) else ([], false)
theorem one_lt_256 : 1 < 4294967296 ^ 256 := by
  have : 4294967296 ^ 1 ≤ 4294967296 ^ 256 := pow_le (by omega)
  rw [Nat.pow_one] at this
  generalize 4294967296 ^ 256 = p at *
  omega
theorem pow_le_of {A m n : Nat} (h : m ≤ n) (hm : ¬ A ^ m < 4294967296 ^ 256) : ¬ A ^ n < 4294967296 ^ 256 := by
  rcases Nat.eq_zero_or_pos A with h0 | h0
  · subst h0
    exfalso
    apply hm
    refine Nat.lt_of_le_of_lt (m := 1) ?_ one_lt_256
    cases m with
    | zero => simp
    | succ m => simp
  · have := Nat.pow_le_pow_right h0 h
    omega
theorem bit_split (n i : Nat) : n / 2 ^ i = 2 * (n / 2 ^ (i + 1)) + (if n.testBit i then 1 else 0) := by
  rw [Nat.testBit_eq_decide_div_mod_eq, Nat.pow_succ, ← Nat.div_div_eq_div_mul]
  generalize n / 2 ^ i = q
  by_cases h : q % 2 = 1
  · rw [decide_eq_true h]; simp; omega
  · rw [decide_eq_false h]; simp; omega
end Go.Proofs.YtijjnjdfdoaafaaDoor.Lib

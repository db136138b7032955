/- What the document's answer for layer 4 (reference 04) comes to: the square root, bit by bit. -/
import Derived.Test.YtijjnjdfdoaafaaLibG
import Derived.Test.YtijjnjdfdoaafaaLibR
import Derived.Test.YtijjnjdfdoaafaaPxsteelyardref04
set_option linter.unusedVariables false
set_option linter.unusedSimpArgs false
namespace Go.Proofs.Ytijjnjdfdoaafaa.Lib
open Go.RowKit Go.Proofs.YtijjnjdfdoaafaaW.PrintWords Go.Proofs.YtijjnjdfdoaafaaW.PrintMore Go.Proofs.Ytijjnjdfdoaafaa.P
theorem rFloor_loop {A M len : Nat} {a : List Int} (hM : M ≤ 100000) (hlen : len ≤ M) (sa : S M a) (hA : V a = A) : ∀ i (q : List Int), W q → q.length = len → i ≤ 32 * len → (∃ c, V q = 2 ^ i * c) → V q ≤ rt A → rt A < V q + 2 ^ i →
    Ev (fun k => steelyardref04_Floor.l0 k a q ((i : Int) - 1)) (L (rt A)) := by
  intro i
  induction i with
  | zero =>
    intro q hw hl hi hc h1 h2
    rw [Nat.pow_zero] at h2
    refine Ev.succ ?_
    simp only [steelyardref04_Floor.l0]
    exact Ev.ifn (by omega) (Ev.bind (rTrim_to (m := 1000000) ⟨hw, by omega⟩ (by omega) (by omega)) (Ev.now _))
  | succ i ih =>
    intro q hw hl hi hc h1 h2
    obtain ⟨c, hc⟩ := hc
    have hp2 : 2 ^ (i + 1) = 2 ^ i * 2 := Nat.pow_succ _ _
    obtain ⟨y, hy, hy1, hy2, hor, hvs⟩ := set_bit hw i (by omega) (no_bit hc)
    have hw2 : W (q.set (i / 32) ((y + 2 ^ (i % 32) : Nat) : Int)) := W_set hw _ (Int.natCast_nonneg _) (by omega)
    have sq : S len (q.set (i / 32) ((y + 2 ^ (i % 32) : Nat) : Int)) := ⟨hw2, by rw [List.length_set]; omega⟩
    have hcl := clear_bit y (i % 32) (by omega) hy2 hy1
    have hrd : (q.set (i / 32) ((y + 2 ^ (i % 32) : Nat) : Int)).getD (i / 32) 0 = ((y + 2 ^ (i % 32) : Nat) : Int) := by
      rw [List.getD_eq_getElem?_getD, List.getElem?_set_self (by omega)]; rfl
    have hback : (q.set (i / 32) ((y + 2 ^ (i % 32) : Nat) : Int)).set (i / 32) (y : Int) = q := by
      rw [List.set_set]
      apply List.ext_getElem?
      intro j
      by_cases hj : i / 32 = j
      · subst hj
        rw [List.getElem?_set_self (by omega), ← hy, List.getD_eq_getElem?_getD, List.getElem?_eq_getElem (by omega)]; rfl
      · rw [List.getElem?_set_ne hj]
    have hcs : ∃ c, V q + 2 ^ i = 2 ^ i * c := ⟨2 * c + 1, by rw [hc, hp2, Nat.mul_add, Nat.mul_one, Nat.mul_assoc]⟩
    have hcq : ∃ c, V q = 2 ^ i * c := ⟨2 * c, by rw [hc, hp2, Nat.mul_assoc]⟩
    have lsq : (V q + 2 ^ i) * (V q + 2 ^ i) < Bp (2 * M) := by
      rw [← hvs]; exact lt_mul sq.v sq.v (by omega)
    obtain ⟨t, ht⟩ : ∃ t, cmpI ((V q + 2 ^ i) * (V q + 2 ^ i)) A = t := ⟨_, rfl⟩
    have rt_ := cmpI_range ((V q + 2 ^ i) * (V q + 2 ^ i)) A
    rw [ht] at rt_
    refine Ev.succ ?_
    simp only [steelyardref04_Floor.l0]
    rw [show (((i + 1 : Nat) : Int) - 1) = (i : Int) by omega, tdiv32, tmod32, w64 (x := ((i / 32 : Nat) : Int)) (by omega) (by omega), wu64 (x := ((i % 32 : Nat) : Int)) (by omega) (by omega), shl_one (by omega), rd_nat, Int.toNat_natCast, w64 (x := (i : Int) - 1) (by omega) (by omega), hy, hor]
    simp only [Option.bind_some]
    rw [rd_nat, hrd, hcl, hback]
    refine Ev.ifp (by omega) (Ev.ifp (by omega) (Ev.ifp (by omega) (Ev.ifp (by omega) ?_)))
    refine Ev.bind (rMul_to sq sq (by omega) (n := (V q + 2 ^ i) * (V q + 2 ^ i)) (by rw [hvs])) (Ev.bind (rCmp_to (S_L lsq) (sa.up (by omega)) (by omega) (c := t) (by rw [V_L, hA]; exact ht)) ?_)
    by_cases hgt : A < (V q + 2 ^ i) * (V q + 2 ^ i)
    · have := sq_lt (Nat.lt_of_le_of_lt (rt_le A) hgt)
      exact Ev.ifp (by omega) (ih q hw hl (by omega) hcq h1 this)
    · have h3 := sq_lt (Nat.lt_of_le_of_lt (Nat.le_of_not_lt hgt) (rt_lt A))
      refine Ev.ifn (by omega) (ih _ hw2 (by rw [List.length_set]; exact hl) (by omega) (by rw [hvs]; exact hcs) (by rw [hvs]; omega) (by rw [hvs, hp2] at *; omega))
section
variable {m p n x y q r : Nat} {l a b : List Int}
theorem rFloor_to (sa : S m a) (hm : m ≤ 10000) (h : V a = n) : Ev (fun k => steelyardref04_Floor.f k a) (L (rt n)) := by
  have hb : bl n ≤ 32 * m := h ▸ bl_S sa
  have h1 : rt n * rt n < 2 ^ ((bl n + 1) / 2) * 2 ^ ((bl n + 1) / 2) := by
    rw [← Nat.pow_add]
    exact Nat.lt_of_le_of_lt (rt_le n) (Nat.lt_of_lt_of_le (bl_lt n) (Nat.pow_le_pow_right (by omega) (by omega)))
  have h2 := sq_lt h1
  obtain ⟨e, he⟩ : ∃ e, (bl n + 1) / 2 = e := ⟨_, rfl⟩
  rw [he] at h2
  unfold steelyardref04_Floor.f
  refine Ev.bind (rBits_to sa (by omega) h) ?_
  rw [w64_succ (by omega), Int.tdiv_eq_ediv_of_nonneg (a := ((bl n + 1 : Nat) : Int)) (by omega), show (((bl n + 1 : Nat) : Int) / 2) = (e : Int) by omega, w64 (x := (e : Int)) (by omega) (by omega), tdiv32, w64 (x := ((e / 32 : Nat) : Int)) (by omega) (by omega), w64_succ (by omega), Int.toNat_natCast]
  refine Ev.ifp (by omega) (Ev.ifp (by omega) ?_)
  have := rFloor_loop (A := n) (M := m + 1) (len := e / 32 + 1) (by omega) (by omega) (sa.up (by omega)) h (e + 1) (List.replicate (e / 32 + 1) 0) (W_rep _) (by rw [List.length_replicate]) (by omega) ⟨0, by rw [V_rep, Nat.mul_zero]⟩ (by rw [V_rep]; omega) (by rw [V_rep, Nat.pow_succ]; omega)
  rw [show (((e + 1 : Nat) : Int) - 1) = (e : Int) by omega] at this
  exact this
theorem rExact_to (sa : S m a) (hm : m ≤ 10000) (h : V a = n) : Ev (fun k => steelyardref04_Exact.f k a) (decide (rt n * rt n = n)) := by
  have lr : rt n < Bp m := rt_Bp (h ▸ sa.v)
  unfold steelyardref04_Exact.f
  refine Ev.bind (rFloor_to sa hm h) (Ev.bind (rMul_to (S_L lr) (S_L lr) (by omega) (n := rt n * rt n) (by rw [V_L])) ?_)
  refine Ev.bind (rCmp_to (m := 2 * m) (S_L (lt_mul lr lr (by omega))) (sa.up (by omega)) (by omega) (c := cmpI (rt n * rt n) n) (by rw [V_L, h])) ?_
  have rc := cmpI_range (rt n * rt n) n
  have eb : (cmpI (rt n * rt n) n == 0) = decide (rt n * rt n = n) := by
    by_cases z : rt n * rt n = n
    · rw [decide_eq_true z, beq_iff_eq]; omega
    · rw [decide_eq_false z, beq_eq_false_iff_ne]; omega
  rw [eb]
  exact Ev.now _
end
end Go.Proofs.Ytijjnjdfdoaafaa.Lib

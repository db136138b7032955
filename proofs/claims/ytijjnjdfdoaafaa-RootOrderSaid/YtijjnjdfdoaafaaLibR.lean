/- The printed functions of package root: the square root, downwards and upwards. -/
import Derived.Test.YtijjnjdfdoaafaaLibF
import Derived.Test.YtijjnjdfdoaafaaPxroot
set_option linter.unusedVariables false
set_option linter.unusedSimpArgs false
namespace Go.Proofs.Ytijjnjdfdoaafaa.Lib
open Go.RowKit Go.Proofs.YtijjnjdfdoaafaaW.PrintWords Go.Proofs.YtijjnjdfdoaafaaW.PrintMore Go.Proofs.Ytijjnjdfdoaafaa.P
/-- The square root, downwards. -/
def rt : Nat → Nat
  | 0 => 0
  | n + 1 => if (rt n + 1) * (rt n + 1) ≤ n + 1 then rt n + 1 else rt n
theorem rt_spec : ∀ n, rt n * rt n ≤ n ∧ n < (rt n + 1) * (rt n + 1)
  | 0 => by decide
  | n + 1 => by
    obtain ⟨h1, h2⟩ := rt_spec n
    unfold rt
    split
    · rename_i h
      refine ⟨h, ?_⟩
      have : (rt n + 1 + 1) * (rt n + 1 + 1) = (rt n + 1) * (rt n + 1) + 2 * (rt n + 1) + 1 := by rw [Nat.add_mul, Nat.mul_add]; omega
      omega
    · omega
theorem rt_le (n : Nat) : rt n * rt n ≤ n := (rt_spec n).1
theorem rt_lt (n : Nat) : n < (rt n + 1) * (rt n + 1) := (rt_spec n).2
theorem sq_le {x y : Nat} (h : x * x ≤ y * y) : x ≤ y := by
  rcases Nat.lt_or_ge y x with h1 | h1
  · have := Nat.mul_lt_mul'' h1 h1
    omega
  · exact h1
theorem sq_lt {x y : Nat} (h : x * x < y * y) : x < y := by
  rcases Nat.lt_or_ge x y with h1 | h1
  · exact h1
  · have := Nat.mul_le_mul h1 h1
    omega
theorem rt_unique {n s : Nat} (h1 : s * s ≤ n) (h2 : n < (s + 1) * (s + 1)) : rt n = s := by
  have a := sq_lt (Nat.lt_of_le_of_lt h1 (rt_lt n))
  have b := sq_lt (Nat.lt_of_le_of_lt (rt_le n) h2)
  omega
theorem rt_mono {x y : Nat} (h : x ≤ y) : rt x ≤ rt y := by
  have := sq_lt (Nat.lt_of_le_of_lt (Nat.le_trans (rt_le x) h) (rt_lt y))
  omega
theorem rt_le_self (n : Nat) : rt n ≤ n := by
  have h := rt_le n
  rcases Nat.eq_zero_or_pos (rt n) with h0 | h0
  · omega
  · have := Nat.mul_le_mul_left (rt n) h0
    omega
theorem rt_sq (s : Nat) : rt (s * s) = s := rt_unique (Nat.le_refl _) (Nat.mul_lt_mul'' (Nat.lt_succ_self _) (Nat.lt_succ_self _))
/-- A step of the guess is not below the root; a guess that comes to no less is the root. -/
theorem step_ge {A r s : Nat} (hr : 0 < r) (hs : s * s ≤ A) : s ≤ (r + A / r) / 2 := by
  rcases Nat.lt_or_ge ((r + A / r) / 2) s with h | h
  · have h1 : r + A / r < 2 * s := by omega
    have h2 : A < r * (A / r + 1) := Nat.lt_mul_div_succ A hr
    have h3 : r * (A / r + 1) ≤ r * (2 * s - r) := Nat.mul_le_mul_left _ (by omega)
    obtain ⟨d, hd⟩ | ⟨d, hd⟩ : (∃ d, s = r + d) ∨ ∃ d, r = s + d := by
      rcases Nat.le_total r s with c | c
      · exact .inl (Nat.exists_eq_add_of_le c)
      · exact .inr (Nat.exists_eq_add_of_le c)
    · subst hd
      have e : r * (r + 2 * d) = r * r + 2 * (r * d) := by rw [Nat.mul_add, Nat.mul_left_comm]
      rw [show 2 * (r + d) - r = r + 2 * d by omega, e] at h3
      rw [Nat.add_mul, Nat.mul_add, Nat.mul_add, Nat.mul_comm d r] at hs
      omega
    · subst hd
      rw [show 2 * s - (s + d) = s - d by omega] at h3
      have h4 : (s + d) * (s - d) ≤ s * s := by
        rcases Nat.le_total d s with c | c
        · obtain ⟨e, rfl⟩ := Nat.exists_eq_add_of_le c
          rw [show d + e - d = e by omega]
          simp only [Nat.add_mul, Nat.mul_add]
          rw [Nat.mul_comm e d]
          omega
        · rw [show s - d = 0 by omega, Nat.mul_zero]; exact Nat.zero_le _
      omega
  · exact h
theorem step_done {A r : Nat} (hr : 0 < r) (hge : rt A ≤ r) (h : r ≤ (r + A / r) / 2) : r = rt A := by
  have h1 : r ≤ A / r := by omega
  have h2 : r * r ≤ A := (Nat.le_div_iff_mul_le hr).1 h1
  have := sq_lt (Nat.lt_of_le_of_lt h2 (rt_lt A))
  omega
theorem power_spec (n : Nat) (hn : n ≤ 1000000) : root_power.f (n : Int) = some (L (2 ^ n)) := by
  have hs : n % 32 < 32 := by omega
  have hp := pow_lt_32 hs
  have hv : V ((List.replicate (n / 32 + 1) 0).set (n / 32) ((2 ^ (n % 32) : Nat) : Int)) = 2 ^ n := by
    have e : (List.replicate (n / 32 + 1) (0 : Int)).set (n / 32) ((2 ^ (n % 32) : Nat) : Int) = List.replicate (n / 32) 0 ++ [((2 ^ (n % 32) : Nat) : Int)] := by
      rw [List.replicate_succ', List.set_append_right _ _ (by simp)]
      simp
    rw [e, V_app, V_rep, List.length_replicate, V_cons, V_nil, Int.toNat_natCast, Nat.mul_zero, Nat.add_zero, Nat.zero_add, two_split]
  have hw : W ((List.replicate (n / 32 + 1) 0).set (n / 32) ((2 ^ (n % 32) : Nat) : Int)) := W_set (W_rep _) _ (Int.natCast_nonneg _) (by generalize 2 ^ (n % 32) = z at *; omega)
  have hl : ((List.replicate (n / 32 + 1) (0 : Int)).set (n / 32) ((2 ^ (n % 32) : Nat) : Int)).length = n / 32 + 1 := by rw [List.length_set, List.length_replicate]
  unfold root_power.f
  rw [tdiv32, tmod32, w64 (x := ((n / 32 : Nat) : Int)) (by omega) (by omega), w64_succ (by omega), Int.toNat_natCast, Int.toNat_natCast, shl_one hs]
  simp only [Option.bind_some]
  rw [if_pos (by omega), if_pos (by omega), if_pos (by omega), if_pos (by omega), if_pos (by rw [List.length_replicate]; omega)]
  refine congrArg some (V_lits _ _ hw hv ?_)
  unfold U
  rw [hv, hl]
  have h1 : (L (2 ^ n)).length ≤ n / 32 + 1 := L_len_le (m := n / 32 + 1) (by rw [pow32]; exact Nat.pow_lt_pow_right (by omega) (by omega))
  have h2 : ¬ (L (2 ^ n)).length ≤ n / 32 := fun h => by
    have := lt_of_len h
    rw [pow32] at this
    have h3 : 2 ^ (32 * (n / 32)) ≤ 2 ^ n := Nat.pow_le_pow_right (by omega) (by omega)
    omega
  omega
section
variable {m p n x y q r : Nat} {l a b : List Int}
theorem Floor_to (sa : S m a) (hm : m ≤ 10000) (h : V a = n) : Ev (fun k => root_Floor.f k a) (L (rt n), decide (rt n * rt n = n)) := by
  have key : n ≠ 0 → ∀ r, r < Bp (m + 1) → 0 < r → rt n ≤ r → Ev (fun k => root_Floor.l0 k (L n) (L r)) (L (rt n), decide (rt n * rt n = n)) := by
    have ln : n < Bp m := h ▸ sa.v
    intro hn0
    have hr1 : 0 < rt n := by
      rcases Nat.eq_zero_or_pos (rt n) with z | z
      · have hn1 := rt_lt n
        rw [z] at hn1
        omega
      · exact z
    intro r
    induction r using Nat.strongRecOn with
    | ind r ih =>
      intro hr h0 hge
      have lq : n / r < Bp (m + 1) := lt_le (lt_up ln (by omega)) (Nat.div_le_self _ _)
      have ls : r + n / r < Bp (m + 2) := lt_add hr lq (by omega)
      have lh : (r + n / r) / 2 < Bp (m + 2) := lt_le ls (Nat.div_le_self _ _)
      refine Ev.succ ?_
      simp only [root_Floor.l0]
      refine Ev.bind (Rem_to (S_L ln) (S_L hr) (by omega) (by omega) (by rw [V_L]; omega) (q := n / r) (by rw [V_L, V_L]) rfl) ?_
      refine Ev.bind (Add_to (S_L hr) (S_L lq) (by omega) (n := r + n / r) (by rw [V_L, V_L])) ?_
      refine Ev.bind (Shift_to (S_L ls) (by omega) (by omega) (by omega) (n := (r + n / r) / 2) (by rw [V_L]; exact shf_down _ 1 (by omega) (by omega))) ?_
      obtain ⟨t, ht⟩ : ∃ t, cmpI ((r + n / r) / 2) r = t := ⟨_, rfl⟩
      have rt_ := cmpI_range ((r + n / r) / 2) r
      rw [ht] at rt_
      refine Ev.bind (Cmp_to (S_L lh) (S_L (lt_up hr (by omega))) (by omega) (c := t) (by rw [V_L, V_L]; exact ht)) ?_
      by_cases c : r ≤ (r + n / r) / 2
      · have e := step_done h0 hge c
        refine Ev.ifp (by omega) (Ev.bind (Mul_to (S_L hr) (S_L hr) (by omega) (n := r * r) (by rw [V_L])) ?_)
        have lrr : r * r < Bp (2 * m + 2) := lt_mul hr hr (by omega)
        refine Ev.bind (Cmp_to (S_L lrr) (S_L (lt_up ln (by omega))) (by omega) (c := cmpI (r * r) n) (by rw [V_L, V_L])) ?_
        rw [← e]
        have rc := cmpI_range (r * r) n
        have eb : (cmpI (r * r) n == 0) = decide (r * r = n) := by
          by_cases z : r * r = n
          · rw [decide_eq_true z, beq_iff_eq]; omega
          · rw [decide_eq_false z, beq_eq_false_iff_ne]; omega
        rw [eb]
        exact Ev.now _
      · have hlt : (r + n / r) / 2 < r := by omega
        have hs := step_ge h0 (rt_le n)
        have hpos : 0 < (r + n / r) / 2 := Nat.lt_of_lt_of_le hr1 hs
        have hll := L_len_le lh
        rw [Int.toNat_natCast, cpy_take _ _ (Nat.le_refl _), List.take_length]
        exact Ev.ifn (by omega) (Ev.ifp (by omega) (Ev.ifp (by omega) (ih _ hlt (Nat.lt_trans hlt hr) hpos hs)))
  unfold root_Floor.f
  refine Ev.bind (Trim_to sa (by omega) h) ?_
  by_cases h0 : n = 0
  · subst h0
    have e : (L (rt 0), decide (rt 0 * rt 0 = 0)) = (([] : List Int), true) := by rw [show rt 0 = 0 from rfl, L_zero]; rfl
    rw [e, L_zero]
    exact Ev.ifp rfl (Ev.now _)
  · have hl : (L n).length ≠ 0 := fun e => h0 (L_len_zero.1 e)
    have hb : bl n ≤ 32 * m := h ▸ bl_S sa
    have hbp := bl_pos h0
    refine Ev.ifn (by omega) (Ev.bind (Bits_to (m := m) (S_L (h ▸ sa.v)) (by omega) (V_L n)) ?_)
    rw [w64_succ (by omega), Int.tdiv_eq_ediv_of_nonneg (by omega), show (((bl n + 1 : Nat) : Int) / 2) = (((bl n + 1) / 2 : Nat) : Int) by omega, w64 (by omega) (by omega), power_spec _ (by omega)]
    simp only [Option.bind_some]
    refine key h0 (2 ^ ((bl n + 1) / 2)) (two_lt (by omega)) (Nat.two_pow_pos _) ?_
    have h1 : rt n * rt n < 2 ^ ((bl n + 1) / 2) * 2 ^ ((bl n + 1) / 2) := by
      rw [← Nat.pow_add]
      exact Nat.lt_of_le_of_lt (rt_le n) (Nat.lt_of_lt_of_le (bl_lt n) (Nat.pow_le_pow_right (by omega) (by omega)))
    exact Nat.le_of_lt (sq_lt h1)
theorem rt_Bp (h : n < Bp m) : rt n < Bp m := lt_le h (rt_le_self n)
/-- The square root, upwards. -/
def ct (n : Nat) : Nat := if rt n * rt n = n then rt n else rt n + 1
theorem Ceil_to (sa : S m a) (hm : m ≤ 10000) (h : V a = n) : Ev (fun k => root_Ceil.f k a) (L (ct n)) := by
  have lr : rt n < Bp m := rt_Bp (h ▸ sa.v)
  unfold root_Ceil.f ct
  refine Ev.bind (Floor_to sa hm h) ?_
  by_cases c : rt n * rt n = n
  · rw [if_pos c]
    exact Ev.ifp (decide_eq_true c) (Ev.now _)
  · rw [if_neg c]
    refine Ev.ifn (by rw [decide_eq_false c]; exact Bool.false_ne_true) (Ev.bind (Of_to (by omega) (by omega) (n := 1) rfl) (Ev.bind (Add_to (m := m + 1) (S_L (lt_up lr (by omega))) (S_L (one_lt_Bp (by omega))) (by omega) (n := rt n + 1) (by rw [V_L, V_L])) (Ev.now _)))
end
end Go.Proofs.Ytijjnjdfdoaafaa.Lib

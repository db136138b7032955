/- What the document's answer for layer 3 (reference 03) comes to: division bit by bit, the greatest divisor in common. -/
import Derived.Test.YtijjnjdfdoaafaaLibE
import Derived.Test.YtijjnjdfdoaafaaPxsteelyardref03
set_option linter.unusedVariables false
set_option linter.unusedSimpArgs false
namespace Go.Proofs.Ytijjnjdfdoaafaa.Lib
open Go.RowKit Go.Proofs.YtijjnjdfdoaafaaW.PrintWords Go.Proofs.YtijjnjdfdoaafaaW.PrintMore Go.Proofs.Ytijjnjdfdoaafaa.P
theorem V_set (l : List Int) (y : Int) : ∀ k, k < l.length → V (l.set k y) + 4294967296 ^ k * (l.getD k 0).toNat = V l + 4294967296 ^ k * y.toNat := by
  induction l with
  | nil => intro k h; simp at h
  | cons x xs ih =>
    intro k h
    cases k with
    | zero => simp only [List.set_cons_zero, V_cons, Nat.pow_zero, Nat.one_mul, List.getD_cons_zero]; omega
    | succ k =>
      have := ih k (by simpa using h)
      simp only [List.set_cons_succ, V_cons, List.getD_cons_succ, Nat.pow_succ]
      generalize 4294967296 ^ k = P at *
      have e := congrArg (4294967296 * ·) this
      simp only [Nat.mul_add] at e
      rw [Nat.mul_comm P, Nat.mul_assoc, Nat.mul_assoc]
      omega
theorem or_two (x s : Nat) (h : x.testBit s = false) : x ||| 2 ^ s = x + 2 ^ s := by
  rw [Nat.testBit_eq_decide_div_mod_eq] at h
  have h0 : x / 2 ^ s % 2 = 0 := by
    have := of_decide_eq_false h
    omega
  have hlo : x % 2 ^ s < 2 ^ s := Nat.mod_lt _ (Nat.two_pow_pos s)
  have e1 : x = 2 ^ (s + 1) * (x / 2 ^ s / 2) + x % 2 ^ s := by
    have a1 := Nat.div_add_mod x (2 ^ s)
    have a2 := Nat.div_add_mod (x / 2 ^ s) 2
    rw [h0, Nat.add_zero] at a2
    rw [Nat.pow_succ, Nat.mul_assoc, a2]
    exact a1.symm
  generalize x / 2 ^ s / 2 = c at *
  generalize x % 2 ^ s = lo at *
  have hlo2 : 2 ^ s + lo < 2 ^ (s + 1) := by rw [Nat.pow_succ]; omega
  have hlo3 : lo < 2 ^ (s + 1) := by rw [Nat.pow_succ]; omega
  have e2 := Nat.two_pow_add_eq_or_of_lt hlo 1
  rw [Nat.mul_one] at e2
  rw [e1, Nat.two_pow_add_eq_or_of_lt hlo3, Nat.or_assoc, Nat.or_comm lo, ← e2, ← Nat.two_pow_add_eq_or_of_lt hlo2, ← Nat.two_pow_add_eq_or_of_lt hlo3]
  omega
theorem or_lt (x s : Nat) (hx : x < 4294967296) (hs : s < 32) : x ||| 2 ^ s < 4294967296 :=
  Nat.or_lt_two_pow (n := 32) hx (Nat.pow_lt_pow_right (by omega) hs)
theorem set_bit {l : List Int} (hw : W l) (i : Nat) (h : i / 32 < l.length) (hb : (V l).testBit i = false) :
    ∃ x : Nat, l.getD (i / 32) 0 = (x : Int) ∧ x + 2 ^ (i % 32) < 4294967296 ∧ x.testBit (i % 32) = false ∧ Go.bits .or .u32 (x : Int) ((2 ^ (i % 32) : Nat) : Int) = ((x + 2 ^ (i % 32) : Nat) : Int) ∧
      V (l.set (i / 32) ((x + 2 ^ (i % 32) : Nat) : Int)) = V l + 2 ^ i := by
  have g := W_get hw (i / 32)
  obtain ⟨x, hx⟩ := Int.eq_ofNat_of_zero_le g.1
  have hs : i % 32 < 32 := by omega
  have hxl : x < 4294967296 := by omega
  rw [testBit_V hw, hx, Int.toNat_natCast] at hb
  have hb2 : x.testBit (i % 32) = false := by rw [Nat.testBit_eq_decide_div_mod_eq]; exact hb
  have e := or_two x (i % 32) hb2
  have hlt := or_lt x _ hxl hs
  have hp : 2 ^ (i % 32) < 4294967296 := Nat.lt_of_le_of_lt (Nat.le_add_left _ x) (by rw [← e]; exact hlt)
  refine ⟨x, hx, by rw [← e]; exact hlt, hb2, by rw [Go.u32_or_nat _ _ hxl hp, e], ?_⟩
  have hv := V_set l ((x + 2 ^ (i % 32) : Nat) : Int) (i / 32) h
  rw [hx, Int.toNat_natCast, Int.toNat_natCast, Nat.mul_add, two_split] at hv
  omega
theorem clear_bit (x s : Nat) (hs : s < 32) (h : x.testBit s = false) (hx : x + 2 ^ s < 4294967296) : Go.bits .andNot .u32 ((x + 2 ^ s : Nat) : Int) ((2 ^ s : Nat) : Int) = (x : Int) := by
  have hp : 2 ^ s < 4294967296 := by omega
  rw [Go.u32_andNot_nat _ _ hx hp]
  refine congrArg Nat.cast (Nat.eq_of_testBit_eq fun j => ?_)
  rw [← or_two x s h, Nat.testBit_and, Nat.testBit_or, Nat.testBit_two_pow, show 4294967295 - 2 ^ s = 2 ^ 32 - (2 ^ s + 1) by omega, Nat.testBit_two_pow_sub_succ (show 2 ^ s < 2 ^ 32 from hp), Nat.testBit_two_pow]
  by_cases hj : s = j
  · subst hj; simp [h]
  · by_cases hj2 : j < 32
    · simp [hj, hj2]
    · have : x.testBit j = false := Nat.testBit_lt_two_pow (Nat.lt_of_lt_of_le (show x < 2 ^ 32 from Nat.lt_of_le_of_lt (Nat.le_add_right _ _) hx) (Nat.pow_le_pow_right (by omega) (by omega)))
      simp [hj, this]
theorem no_bit {v i c : Nat} (h : v = 2 ^ (i + 1) * c) : v.testBit i = false := by
  rw [Nat.testBit_eq_decide_div_mod_eq, h, Nat.pow_succ, Nat.mul_assoc, Nat.mul_div_cancel_left _ (Nat.two_pow_pos i)]
  simp
theorem rRem_loop {A B n M len : Nat} (hB : 0 < B) (hM : M < 1000000) (hlen : len ≤ 1000000) (hA : A < Bp M) (hx : B * 2 ^ n < Bp M) : ∀ i lv (q x : List Int), W q → q.length = len → i ≤ 32 * len → i ≤ n + 1 → (∃ c, V q = 2 ^ i * c) → V q * B + lv = A → lv < B * 2 ^ i →
    (∀ j, i = j + 1 → x = L (B * 2 ^ j)) → Ev (fun k => steelyardref03_Rem.l0 k (L lv) q x ((i : Int) - 1)) (L (A / B), L (A % B), true) := by
  intro i
  induction i with
  | zero =>
    intro lv q x hw hl hi hn hc hv hlt hx'
    rw [Nat.pow_zero, Nat.mul_one] at hlt
    have e : A = lv + B * V q := by rw [← hv, Nat.mul_comm]; omega
    refine Ev.succ ?_
    simp only [steelyardref03_Rem.l0]
    rw [e, Nat.add_mul_div_left _ _ hB, Nat.add_mul_mod_self_left, Nat.div_eq_of_lt hlt, Nat.mod_eq_of_lt hlt, Nat.zero_add]
    exact Ev.ifn (by omega) (Ev.bind (rTrim_to (m := 1000000) ⟨hw, by omega⟩ (by omega) rfl) (Ev.now _))
  | succ i ih =>
    intro lv q x hw hl hi hn hc hv hlt hx'
    obtain ⟨c, hc⟩ := hc
    obtain rfl := hx' i rfl
    have hxi : B * 2 ^ i < Bp M := Nat.lt_of_le_of_lt (Nat.mul_le_mul_left _ (Nat.pow_le_pow_right (by omega) (by omega))) hx
    have hlv : lv < Bp M := by omega
    have hp2 : 2 ^ (i + 1) = 2 ^ i * 2 := Nat.pow_succ _ _
    have half : ∀ j, i = j + 1 → L (B * 2 ^ i / 2 ^ 1) = L (B * 2 ^ j) := fun j hj => by
      rw [hj, Nat.pow_succ 2 j, ← Nat.mul_assoc, Nat.pow_one, Nat.mul_div_cancel _ (by omega)]
    have dn : Ev (fun k => steelyardref02_Down.f k (L (B * 2 ^ i)) 1) (L (B * 2 ^ i / 2 ^ 1)) := by
      have := rDown_to (S_L hxi) (by omega) 1 (by omega) rfl
      rw [V_L] at this
      exact this
    obtain ⟨cc, hcc⟩ : ∃ cc, cmpI lv (B * 2 ^ i) = cc := ⟨_, rfl⟩
    have rc := cmpI_range lv (B * 2 ^ i)
    rw [hcc] at rc
    refine Ev.succ ?_
    simp only [steelyardref03_Rem.l0]
    rw [show (((i + 1 : Nat) : Int) - 1) = (i : Int) by omega, tdiv32, tmod32, w64 (x := ((i / 32 : Nat) : Int)) (by omega) (by omega), wu64 (x := ((i % 32 : Nat) : Int)) (by omega) (by omega), shl_one (by omega), rd_nat, Int.toNat_natCast, w64 (x := (i : Int) - 1) (by omega) (by omega)]
    refine Ev.ifp (by omega) (Ev.bind (rCmp_to (S_L hlv) (S_L hxi) (by omega) (c := cc) (by rw [V_L, V_L]; exact hcc)) ?_)
    by_cases hge : B * 2 ^ i ≤ lv
    · obtain ⟨y, hy, hy1, _, hor, hvs⟩ := set_bit hw i (by omega) (no_bit hc)
      rw [hy, hor]
      refine Ev.ifp (by omega) (Ev.bind (rSub_to (S_L hlv) (S_L hxi) (by omega) (n := lv - B * 2 ^ i) (by rw [V_L, V_L]; omega)) (Ev.ifp (by omega) (Ev.ifp (by omega) (Ev.ifp (by omega) (Ev.bind dn ?_)))))
      refine ih (lv - B * 2 ^ i) _ _ (W_set hw _ (Int.natCast_nonneg _) (by omega)) (by rw [List.length_set]; exact hl) (by omega) (by omega) ⟨2 * c + 1, ?_⟩ ?_ ?_ half
      · rw [hvs, hc, hp2, Nat.mul_add, Nat.mul_one, Nat.mul_assoc]
      · rw [hvs, Nat.add_mul, Nat.mul_comm (2 ^ i) B]; omega
      · rw [hp2, ← Nat.mul_assoc] at hlt; omega
    · refine Ev.ifn (by omega) (Ev.bind dn ?_)
      exact ih lv _ _ hw hl (by omega) (by omega) ⟨2 * c, by rw [hc, hp2, Nat.mul_assoc]⟩ hv (by omega) half
section
variable {m p n x y q r : Nat} {l a b : List Int}
theorem rRem_no (sb : S p b) (hp : p ≤ 100000) (h : V b = 0) : Ev (fun k => steelyardref03_Rem.f k a b) ([], [], false) := by
  unfold steelyardref03_Rem.f
  exact Ev.bind (rBits_to sb (by omega) h) (Ev.ifp rfl (Ev.now _))
theorem rRem_to (sa : S m a) (sb : S p b) (hm : m ≤ 100000) (hp : p ≤ 100000) (h0 : V b ≠ 0) (hq : V a / V b = q) (hr : V a % V b = r) : Ev (fun k => steelyardref03_Rem.f k a b) (L q, L r, true) := by
  have hb := bl_pos h0
  have ha1 := bl_S sa
  have hb1 := bl_S sb
  obtain ⟨n, hn⟩ : ∃ n, bl (V a) - bl (V b) = n := ⟨_, rfl⟩
  have hmx : mx 0 (wrap64 (((bl (V a) : Nat) : Int) - ((bl (V b) : Nat) : Int))) = (n : Int) := by
    rw [w64 (by omega) (by omega)]
    unfold mx
    split <;> omega
  have hlt : V a < V b * 2 ^ (n + 1) := by
    refine Nat.lt_of_lt_of_le (bl_lt _) (Nat.le_trans (Nat.pow_le_pow_right (by omega) (show bl (V a) ≤ bl (V b) - 1 + (n + 1) by omega)) ?_)
    rw [Nat.pow_add]
    exact Nat.mul_le_mul_right _ (bl_le h0)
  have hx : V b * 2 ^ n < Bp (m + p + 1) := lt_mul sb.v (two_lt (m := m + 1) (by omega)) (by omega)
  unfold steelyardref03_Rem.f
  refine Ev.bind (rBits_to sb (by omega) rfl) (Ev.ifn (by omega) (Ev.bind (rTrim_to sa (by omega) rfl) (Ev.bind (rBits_to sa (by omega) rfl) (Ev.bind (rBits_to sb (by omega) rfl) ?_))))
  rw [hmx, tdiv32, w64 (x := ((n / 32 : Nat) : Int)) (by omega) (by omega), w64_succ (by omega), Int.toNat_natCast]
  refine Ev.ifp (by omega) (Ev.ifp (by omega) (Ev.bind (rUp_to sb (by omega) n (by omega) rfl) ?_))
  have := rRem_loop (A := V a) (B := V b) (n := n) (M := m + p + 1) (len := n / 32 + 1) (by omega) (by omega) (by omega) (lt_up sa.v (by omega)) hx (n + 1) (V a) (List.replicate (n / 32 + 1) 0) (L (V b * 2 ^ n)) (W_rep _) (by rw [List.length_replicate]) (by omega) (by omega) ⟨0, by rw [V_rep, Nat.mul_zero]⟩
    (by rw [V_rep, Nat.zero_mul, Nat.zero_add]) hlt (fun j hj => by rw [show n = j by omega])
  rw [show (((n + 1 : Nat) : Int) - 1) = (n : Int) by omega, hq, hr] at this
  exact this
theorem rGcd_to (sa : S m a) (sb : S m b) (hm : m ≤ 100000) (h : Nat.gcd (V a) (V b) = n) : Ev (fun k => steelyardref03_Gcd.f k a b) (L n) := by
  have key : ∀ y x, x < Bp m → y < Bp m → Ev (fun k => steelyardref03_Gcd.l0 k (L x) (L y)) (L (Nat.gcd x y)) := by
    intro y
    induction y using Nat.strongRecOn with
    | ind y ih =>
      intro x hx hy
      refine Ev.succ ?_
      simp only [steelyardref03_Gcd.l0]
      by_cases h0 : y = 0
      · subst h0
        rw [L_zero, Nat.gcd_zero_right]
        exact Ev.ifn (by decide) (Ev.now _)
      · have hl : (L y).length ≠ 0 := fun e => h0 (L_len_zero.1 e)
        refine Ev.ifp (by omega) (Ev.bind (rRem_to (S_L hx) (S_L hy) hm hm (by rw [V_L]; exact h0) rfl rfl) ?_)
        have hlt := Nat.mod_lt x (show 0 < y by omega)
        have := ih (x % y) hlt y hy (Nat.lt_trans hlt hy)
        rw [V_L, V_L]
        rw [Nat.gcd_comm y, ← Nat.gcd_rec y x, Nat.gcd_comm y] at this
        exact this
  unfold steelyardref03_Gcd.f
  refine Ev.bind (rTrim_to sa (by omega) rfl) (Ev.bind (rTrim_to sb (by omega) rfl) ?_)
  rw [← h]
  exact key _ _ sa.v sb.v
end
end Go.Proofs.Ytijjnjdfdoaafaa.Lib

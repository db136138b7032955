/- What the document's answer for layer 1 (reference 01) comes to. -/
import Derived.Test.YtijjnjdfdoaafaaLibN
import Derived.Test.YtijjnjdfdoaafaaPxsteelyardref01
set_option linter.unusedVariables false
set_option linter.unusedSimpArgs false
namespace Go.Proofs.Ytijjnjdfdoaafaa.Lib
open Go.RowKit Go.Proofs.YtijjnjdfdoaafaaW.PrintWords Go.Proofs.YtijjnjdfdoaafaaW.PrintMore Go.Proofs.Ytijjnjdfdoaafaa.P

theorem rat_spec {l : List Int} (h : W l) (i : Nat) : steelyardref01_at.f l (i : Int) = some (l.getD i 0) := by
  unfold steelyardref01_at.f
  by_cases hi : i < l.length
  · have g := W_get h i
    rw [if_neg (by omega), if_pos (by omega), if_pos (by omega), rd_nat, wu64 (by omega) (by omega)]
  · rw [if_pos (by omega), List.getD_eq_getElem?_getD, List.getElem?_eq_none (by omega)]
    rfl
theorem rTrim_spec {l : List Int} (hG : G l) : Ev (fun k => steelyardref01_Trim.f k l) (L (V l)) := by
  obtain ⟨h, hl⟩ := hG
  have hU := U_le h
  have eU : (L (V l)).length = U l := rfl
  have key : ∀ d i : Nat, i = U l + d → i ≤ l.length → Ev (fun k => steelyardref01_Trim.l0 k l (i : Int)) (L (V l)) := by
    intro d
    induction d with
    | zero =>
      intro i hi hil
      obtain rfl : i = U l := by omega
      refine Ev.succ ?_
      simp only [steelyardref01_Trim.l0, Option.bind_some, List.nil_append, List.length_nil, Int.toNat_natCast, List.length_take, take_U h]
      by_cases h0 : U l = 0
      · exact Ev.ifn (by omega) (Ev.ifp (by omega) (Ev.ifp (by omega) (Ev.ifp (by omega) (Ev.now _))))
      · rw [w64_pred (by omega) (by omega), rd_nat]
        exact Ev.ifp (by omega) (Ev.ifp (by omega) (Ev.ifp (by omega) (Ev.ifn (U_last h h0) (Ev.ifp (by omega) (Ev.ifp (by omega) (Ev.ifp (by omega) (Ev.now _)))))))
    | succ d ih =>
      intro i hi hil
      refine Ev.succ ?_
      simp only [steelyardref01_Trim.l0]
      rw [w64_pred (by omega) (by omega), rd_nat]
      exact Ev.ifp (by omega) (Ev.ifp (by omega) (Ev.ifp (by omega) (Ev.ifp (tail_zero h (by omega)) (ih (i - 1) (by omega) (by omega)))))
  exact key (l.length - U l) l.length (by omega) (Nat.le_refl _)
section
variable {m p n x y : Nat} {l a b : List Int}
theorem rTrim_to (sa : S m a) (hm : m ≤ 1000000) (h : V a = n) : Ev (fun k => steelyardref01_Trim.f k a) (L n) := h ▸ rTrim_spec (sa.g hm)
theorem rCmp_to (sa : S m a) (sb : S m b) (hm : m ≤ 1000000) {c : Int} (h : cmpI (V a) (V b) = c) : Ev (fun k => steelyardref01_Cmp.f k a b) c := by
  have hla := sa.2
  have hlb := sb.2
  have key : ∀ i : Nat, i ≤ 1000000 → Ev (fun k => steelyardref01_Cmp.l0 k a b ((i : Int) - 1)) (cmpI (V (a.take i)) (V (b.take i))) := by
    intro i
    induction i with
    | zero =>
      intro _
      refine Ev.succ ?_
      simp only [steelyardref01_Cmp.l0]
      refine Ev.ifn (by omega) ?_
      simp only [List.take_zero, cmpI_eq]
      exact Ev.now _
    | succ i ih =>
      intro h1
      refine Ev.succ ?_
      simp only [steelyardref01_Cmp.l0]
      rw [show (((i + 1 : Nat) : Int) - 1) = (i : Int) by omega]
      simp only [rat_spec sa.1, rat_spec sb.1, Option.bind_some]
      refine Ev.ifp (by omega) ?_
      have g1 := W_get sa.1 i
      have g2 := W_get sb.1 i
      have t1 := V_take_lt sa.1 i
      have t2 := V_take_lt sb.1 i
      rw [V_take_succ, V_take_succ]
      by_cases c1 : a.getD i 0 < b.getD i 0
      · rw [cmpI_lt (cmp_step t1 t2 (by omega))]
        exact Ev.ifp c1 (Ev.now _)
      · refine Ev.ifn c1 ?_
        by_cases c2 : a.getD i 0 > b.getD i 0
        · rw [cmpI_gt (cmp_step t2 t1 (by omega))]
          exact Ev.ifp c2 (Ev.now _)
        · refine Ev.ifn c2 ?_
          rw [w64 (by omega) (by omega), show (a.getD i 0).toNat = (b.getD i 0).toNat by omega, cmpI_add]
          exact ih (by omega)
  unfold steelyardref01_Cmp.f
  rw [mx_nat, w64 (by omega) (by omega)]
  refine Ev.eq (key (max a.length b.length) (by omega)) ?_
  rw [V_take_all a (by omega), V_take_all b (by omega), h]
theorem W_snoc {l : List Int} {x : Int} (h : W l) (h0 : 0 ≤ x) (h1 : x < 4294967296) : W (l ++ [x]) := by
  rw [W_app, W_cons]
  exact ⟨h, ⟨h0, h1⟩, W_nil⟩
theorem V_snoc (l : List Int) (x : Int) : V (l ++ [x]) = V l + 4294967296 ^ l.length * x.toNat := by
  rw [V_app, V_cons, V_nil, Nat.mul_zero, Nat.add_zero]
theorem rAdd_to (sa : S m a) (sb : S m b) (hm : m < 1000000) (h : V a + V b = n) : Ev (fun k => steelyardref01_Add.f k a b) (L n) := by
  have hla := sa.2
  have hlb := sb.2
  -- from round i on, with what is left
  have key : ∀ d i (out : List Int) (c : Nat), m + 2 ≤ i + d → i ≤ m + 1 → out.length = i → W out → c ≤ 1 → V out + 4294967296 ^ i * c = V (a.take i) + V (b.take i) → (m + 1 = i → c = 0) →
      Ev (fun k => steelyardref01_Add.l0 k a b out (c : Int) (i : Int)) (L n) := by
    intro d
    induction d with
    | zero => intro i out c h1 h2; omega
    | succ d ih =>
      intro i out c h1 h2 ho hw hc hv hlast
      have stop : ¬ i < a.length → ¬ i < b.length → c = 0 → Ev (fun k => steelyardref01_Add.j1 k a b out (c : Int) (i : Int) false) (L n) := by
        intro n1 n2 n3
        refine Ev.succ ?_
        simp only [steelyardref01_Add.j1]
        refine Ev.ifn (by decide) (Ev.bind (rTrim_to (m := 1000000) ⟨hw, by omega⟩ (by omega) ?_) (Ev.now _))
        rw [V_take_all a (by omega), V_take_all b (by omega), n3, Nat.mul_zero, Nat.add_zero] at hv
        rw [hv, h]
      have more : i ≤ m → Ev (fun k => steelyardref01_Add.j1 k a b out (c : Int) (i : Int) true) (L n) := by
        intro him
        refine Ev.succ ?_
        simp only [steelyardref01_Add.j1, rat_spec sa.1, rat_spec sb.1, Option.bind_some]
        have g1 := W_get sa.1 i
        have g2 := W_get sb.1 i
        obtain ⟨x, hx⟩ := Int.eq_ofNat_of_zero_le g1.1
        obtain ⟨y, hy⟩ := Int.eq_ofNat_of_zero_le g2.1
        rw [hx, hy, ← Int.natCast_add, wu64 (x := ((x + y : Nat) : Int)) (by omega) (by omega), ← Int.natCast_add, wu64 (x := ((c + (x + y) : Nat) : Int)) (by omega) (by omega), w64_succ (by omega),
          show ((c + (x + y) : Nat) : Int) / 4294967296 = (((c + (x + y)) / 4294967296 : Nat) : Int) by omega, show ((c + (x + y) : Nat) : Int) % 4294967296 = (((c + (x + y)) % 4294967296 : Nat) : Int) by omega]
        refine Ev.ifp trivial (Ev.ifp (by omega) ?_)
        have hv' : V (out ++ [(((c + (x + y)) % 4294967296 : Nat) : Int)]) + 4294967296 ^ (i + 1) * ((c + (x + y)) / 4294967296) = V (a.take (i + 1)) + V (b.take (i + 1)) := by
          rw [V_snoc, V_take_succ, V_take_succ, ho, hx, hy, Int.toNat_natCast, Int.toNat_natCast, Int.toNat_natCast, Nat.pow_succ]
          generalize 4294967296 ^ i = q at *
          have e2 : 4294967296 * ((c + (x + y)) / 4294967296) + (c + (x + y)) % 4294967296 = c + (x + y) := Nat.div_add_mod _ _
          have e3 := congrArg (q * ·) e2
          simp only [Nat.mul_add] at e3
          rw [Nat.mul_assoc q 4294967296]
          omega
        refine ih (i + 1) _ _ (by omega) (by omega) (by rw [List.length_append, ho]; rfl) (W_snoc hw (by omega) (by omega)) (by omega) hv' (fun e => ?_)
        rw [V_take_all a (by omega), V_take_all b (by omega), h] at hv'
        refine carry_zero hv' ?_
        rw [← h, ← e]
        exact lt_add sa.v sb.v (by omega)
      refine Ev.succ ?_
      simp only [steelyardref01_Add.l0]
      by_cases n1 : i < a.length
      · exact Ev.ifp (by omega) (more (by omega))
      · refine Ev.ifn (by omega) ?_
        by_cases n2 : i < b.length
        · exact Ev.ifp (by omega) (more (by omega))
        · refine Ev.ifn (by omega) ?_
          by_cases n3 : c = 0
          · rw [decide_eq_false (by omega)]
            exact stop n1 n2 n3
          · rw [decide_eq_true (by omega)]
            exact more (by omega)
  unfold steelyardref01_Add.f
  exact key (m + 2) 0 [] 0 (by omega) (by omega) rfl W_nil (by omega) (by simp [V]) (fun _ => rfl)
theorem rSub_to (sa : S m a) (sb : S m b) (hm : m ≤ 1000000) (h : V a = V b + n) : Ev (fun k => steelyardref01_Sub.f k a b) (L n) := by
  have hla := sa.2
  have hUb : U b ≤ a.length := by
    have h1 := V_lt sa.1
    exact L_len_le (Nat.lt_of_le_of_lt (by omega) h1)
  have key : ∀ d i (out : List Int) (c : Nat), a.length = i + d → out.length = i → W out → c ≤ 1 → V out + V (b.take i) = V (a.take i) + 4294967296 ^ i * c →
      Ev (fun k => steelyardref01_Sub.l0 k a b out (c : Int) (i : Int)) (L n) := by
    intro d
    induction d with
    | zero =>
      intro i out c hi ho hw hc hv
      refine Ev.succ ?_
      simp only [steelyardref01_Sub.l0]
      refine Ev.ifn (by omega) (Ev.bind (rTrim_to (m := 1000000) ⟨hw, by omega⟩ (by omega) ?_) (Ev.now _))
      rw [V_take_all a (by omega), V_take_ge sb.1 (by omega)] at hv
      have hlt := V_lt hw
      rw [ho] at hlt
      rcases Nat.eq_zero_or_pos c with h0 | h0
      · rw [h0, Nat.mul_zero] at hv; omega
      · have := Nat.mul_le_mul_left (4294967296 ^ i) h0
        generalize 4294967296 ^ i = q at *
        omega
    | succ d ih =>
      intro i out c hi ho hw hc hv
      refine Ev.succ ?_
      simp only [steelyardref01_Sub.l0, rat_spec sa.1, rat_spec sb.1, Option.bind_some]
      have g1 := W_get sa.1 i
      have g2 := W_get sb.1 i
      obtain ⟨x, hx⟩ := Int.eq_ofNat_of_zero_le g1.1
      obtain ⟨y, hy⟩ := Int.eq_ofNat_of_zero_le g2.1
      rw [hx, hy, wu64 (x := (y : Int) + (c : Int)) (by omega) (by omega), wu64 (x := (x : Int) + 4294967296) (by omega) (by omega), w64_succ (by omega)]
      refine Ev.ifp (by omega) ?_
      have st : ∀ (z c' : Nat), z < 4294967296 → c' ≤ 1 → z + y + c = x + 4294967296 * c' → V (out ++ [((z : Nat) : Int)]) + V (b.take (i + 1)) = V (a.take (i + 1)) + 4294967296 ^ (i + 1) * c' := by
        intro z c' hz hc' he
        rw [V_snoc, V_take_succ, V_take_succ, ho, hx, hy, Int.toNat_natCast, Int.toNat_natCast, Int.toNat_natCast, Nat.pow_succ]
        generalize 4294967296 ^ i = q at *
        have e3 := congrArg (q * ·) he
        simp only [Nat.mul_add] at e3
        rw [Nat.mul_assoc q 4294967296]
        omega
      by_cases hb : x < y + c
      · refine Ev.ifp (by omega) (Ev.ifp (by omega) ?_)
        rw [wu64 (by omega) (by omega), show ((x : Int) + 4294967296 - ((y : Int) + (c : Int))) % 4294967296 = ((x + 4294967296 - (y + c) : Nat) : Int) by omega]
        exact ih (i + 1) _ 1 (by omega) (by rw [List.length_append, ho]; rfl) (W_snoc hw (by omega) (by omega)) (by omega) (st _ 1 (by omega) (by omega) (by omega))
      · refine Ev.ifn (by omega) (Ev.ifp (by omega) ?_)
        rw [wu64 (by omega) (by omega), show ((x : Int) - ((y : Int) + (c : Int))) % 4294967296 = ((x - (y + c) : Nat) : Int) by omega]
        exact ih (i + 1) _ 0 (by omega) (by rw [List.length_append, ho]; rfl) (W_snoc hw (by omega) (by omega)) (by omega) (st _ 0 (by omega) (by omega) (by omega))
  unfold steelyardref01_Sub.f
  exact key a.length 0 [] 0 (by omega) rfl W_nil (by omega) (by simp [V])
theorem rBit_to (sa : S m a) (h : V a = n) (i : Nat) (hi : i < 9223372036854775808) : steelyardref01_Bit.f a (i : Int) = some (n.testBit i) := by
  unfold steelyardref01_Bit.f
  rw [if_pos (by omega), show Int.tdiv (i : Int) 32 = ((i / 32 : Nat) : Int) by rw [Int.tdiv_eq_ediv_of_nonneg (by omega)]; omega, show Int.tmod (i : Int) 32 = ((i % 32 : Nat) : Int) by rw [Int.tmod_eq_emod_of_nonneg (by omega)]; omega,
    w64 (by omega) (by omega), wu64 (by omega) (by omega), rat_spec sa.1, ← h, testBit_V sa.1]
  simp only [Option.bind_some]
  rw [if_pos (by omega)]
  have g := W_get sa.1 (i / 32)
  obtain ⟨t, ht⟩ := Int.eq_ofNat_of_zero_le g.1
  rw [ht] at g ⊢
  congr 1
  have e3 : shr .u64 ((t : Nat) : Int) ((i % 32 : Nat) : Int) = ((t / 2 ^ (i % 32) : Nat) : Int) := by
    unfold shr
    rw [Int.toNat_natCast, Nat.min_eq_left (by show i % 32 ≤ 64; omega)]
    rw [Int.natCast_ediv, Int.natCast_pow]
    rfl
  rw [e3, show (1 : Int) = ((1 : Nat) : Int) from rfl, u64_and_nat _ _ (Nat.lt_of_le_of_lt (Nat.div_le_self _ _) (by omega)) (by decide), Nat.and_one_is_mod, Int.toNat_natCast]
  generalize t / 2 ^ (i % 32) % 2 = q
  by_cases hq : q = 1
  · subst hq; rfl
  · rw [decide_eq_false hq, beq_eq_false_iff_ne]
    omega
theorem rBits_to (sa : S m a) (hm : m ≤ 1000000) (h : V a = n) : Ev (fun k => steelyardref01_Bits.f k a) ((bl n : Nat) : Int) := by
  subst h
  have hla := sa.2
  have hb : bl (V a) ≤ 32 * a.length := bl_S (m := a.length) ⟨sa.1, Nat.le_refl _⟩
  have key : ∀ d i : Nat, i = bl (V a) + d → i ≤ 32 * a.length → Ev (fun k => steelyardref01_Bits.l0 k a (i : Int)) ((bl (V a) : Nat) : Int) := by
    intro d
    induction d with
    | zero =>
      intro i hi hil
      obtain rfl : i = bl (V a) := by omega
      refine Ev.succ ?_
      simp only [steelyardref01_Bits.l0]
      by_cases h0 : V a = 0
      · rw [h0, bl_zero]
        exact Ev.ifn (by omega) (Ev.now _)
      · have hp := bl_pos h0
        have ht : (V a).testBit (bl (V a) - 1) = true := by
          have h1 := bl_le h0
          have h2 := bl_lt (V a)
          rw [show bl (V a) = bl (V a) - 1 + 1 by omega, Nat.pow_succ] at h2
          rw [Nat.testBit_eq_decide_div_mod_eq, Nat.div_eq_of_lt_le (m := V a) (k := 1) (by omega) (by omega)]
          rfl
        rw [w64_pred hp (by omega), rBit_to sa rfl _ (by omega), ht]
        simp only [Option.bind_some]
        exact Ev.ifp (by omega) (Ev.ifp trivial (Ev.now _))
    | succ d ih =>
      intro i hi hil
      refine Ev.succ ?_
      simp only [steelyardref01_Bits.l0]
      rw [w64_pred (by omega) (by omega), rBit_to sa rfl _ (by omega), Nat.testBit_lt_two_pow (bl_le_iff.1 (by omega))]
      simp only [Option.bind_some]
      exact Ev.ifp (by omega) (Ev.ifn (by decide) (ih (i - 1) (by omega) (by omega)))
  unfold steelyardref01_Bits.f
  rw [show (32 : Int) * (a.length : Int) = ((32 * a.length : Nat) : Int) by omega, w64 (by omega) (by omega)]
  exact key (32 * a.length - bl (V a)) (32 * a.length) (by omega) (Nat.le_refl _)
end
end Go.Proofs.Ytijjnjdfdoaafaa.Lib

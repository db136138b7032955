/- What the document's answer for layer 2 (reference 02) comes to. -/
import Derived.Test.YtijjnjdfdoaafaaLibM
import Derived.Test.YtijjnjdfdoaafaaLibD
import Derived.Test.YtijjnjdfdoaafaaPxsteelyardref02
set_option linter.unusedVariables false
set_option linter.unusedSimpArgs false
namespace Go.Proofs.Ytijjnjdfdoaafaa.Lib
open Go.RowKit Go.Proofs.YtijjnjdfdoaafaaW.PrintWords Go.Proofs.YtijjnjdfdoaafaaW.PrintMore Go.Proofs.Ytijjnjdfdoaafaa.P
section
variable {m p n x y : Nat} {l a b : List Int}
theorem rSmall_to (sa : S m a) (hm : m < 1000000) {v : Int} (h0 : 0 ≤ v) (h1 : v < 4294967296) (h : V a * v.toNat = n) : Ev (fun k => steelyardref02_Small.f k a v) (L n) := by
  have hla := sa.2
  obtain ⟨v, rfl⟩ := Int.eq_ofNat_of_zero_le h0
  rw [Int.toNat_natCast] at h
  have key : ∀ d i (out : List Int) (c : Nat), a.length = i + d → out.length = i → W out → c < 4294967296 → V out + 4294967296 ^ i * c = V (a.take i) * v →
      Ev (fun k => steelyardref02_Small.l0 k a (v : Int) out (c : Int) (i : Int)) (L n) := by
    intro d
    induction d with
    | zero =>
      intro i out c hi ho hw hc hv
      refine Ev.succ ?_
      simp only [steelyardref02_Small.l0]
      rw [show (c : Int) % 4294967296 = ((c : Nat) : Int) by omega]
      refine Ev.ifn (by omega) (Ev.ifp (by omega) (Ev.bind (rTrim_to (m := 1000000) ⟨W_snoc hw (by omega) (by omega), by simp; omega⟩ (by omega) ?_) (Ev.now _)))
      rw [V_snoc, ho, Int.toNat_natCast, hv, V_take_all a (by omega), h]
    | succ d ih =>
      intro i out c hi ho hw hc hv
      refine Ev.succ ?_
      simp only [steelyardref02_Small.l0, rd_nat]
      have g1 := W_get sa.1 i
      obtain ⟨x, hx⟩ := Int.eq_ofNat_of_zero_le g1.1
      have hp : x * v ≤ 4294967295 * 4294967295 := Nat.mul_le_mul (by omega) (by omega)
      rw [hx, wu64 (x := (x : Int)) (by omega) (by omega), wu64 (x := (v : Int)) (by omega) (by omega), ← Int.natCast_mul, wu64 (x := ((x * v : Nat) : Int)) (by omega) (by omega), ← Int.natCast_add, wu64 (x := ((c + x * v : Nat) : Int)) (by omega) (by omega), w64_succ (by omega),
        show ((c + x * v : Nat) : Int) / 4294967296 = (((c + x * v) / 4294967296 : Nat) : Int) by omega, show ((c + x * v : Nat) : Int) % 4294967296 = (((c + x * v) % 4294967296 : Nat) : Int) by omega]
      refine Ev.ifp (by omega) (Ev.ifp (by omega) (Ev.ifp (by omega) ?_))
      refine ih (i + 1) _ _ (by omega) (by rw [List.length_append, ho]; rfl) (W_snoc hw (by omega) (by omega)) (by omega) ?_
      rw [V_snoc, V_take_succ, ho, hx, Int.toNat_natCast, Int.toNat_natCast, Nat.pow_succ]
      generalize 4294967296 ^ i = q at *
      have e2 : 4294967296 * ((c + x * v) / 4294967296) + (c + x * v) % 4294967296 = c + x * v := Nat.div_add_mod _ _
      have e3 := congrArg (q * ·) e2
      simp only [Nat.mul_add] at e3
      rw [Nat.mul_assoc q 4294967296, Nat.add_mul, Nat.mul_assoc q x v]
      omega
  unfold steelyardref02_Small.f
  exact key a.length 0 [] 0 (by omega) rfl W_nil (by omega) (by simp [V])
theorem shl_u64 (x s : Nat) (hx : x < 4294967296) (hs : s < 32) : shl .u64 (x : Int) (s : Int) = ((x * 2 ^ s : Nat) : Int) := by
  have hp := pow_lt_32 hs
  have hb : x * 2 ^ s ≤ 4294967295 * 2147483648 := Nat.mul_le_mul (by omega) hp
  unfold shl
  rw [Int.toNat_natCast, Nat.min_eq_left (by show s ≤ 64; omega), show ((2 : Int) ^ s) = ((2 ^ s : Nat) : Int) by rw [Int.natCast_pow]; rfl, ← Int.natCast_mul]
  exact wu64 (by omega) (by omega)
theorem or_low (c h s : Nat) (hs : s < 32) (hc : c < 2 ^ s) (hh : h < 4294967296) : Go.bits .or .u64 (c : Int) ((h * 2 ^ s : Nat) : Int) = ((h * 2 ^ s + c : Nat) : Int) := by
  have hp := pow_lt_32 hs
  have hb : h * 2 ^ s ≤ 4294967295 * 2147483648 := Nat.mul_le_mul (by omega) hp
  have e := Nat.two_pow_add_eq_or_of_lt hc h
  generalize 2 ^ s = q at *
  rw [u64_or_nat _ _ (by omega) (by omega), Nat.or_comm, Nat.mul_comm h q, ← e]
theorem rUp_to (sa : S m a) (hm : m ≤ 400000) (q : Nat) (hq : q ≤ 16000000) (h : V a * 2 ^ q = n) : Ev (fun k => steelyardref02_Up.f k a (q : Int)) (L n) := by
  have hla := sa.2
  have hs : q % 32 < 32 := by omega
  have hsp := two_split q
  have key : ∀ d i (out : List Int) (c : Nat), a.length = i + d → out.length = q / 32 + i → W out → c < 2 ^ (q % 32) → V out + 4294967296 ^ (q / 32 + i) * c = 4294967296 ^ (q / 32) * (2 ^ (q % 32) * V (a.take i)) →
      Ev (fun k => steelyardref02_Up.l0 k a (q : Int) out (c : Int) (i : Int)) (L n) := by
    intro d
    induction d with
    | zero =>
      intro i out c hi ho hw hc hv
      have hp := pow_lt_32 hs
      have hc2 : c < 4294967296 := by generalize 2 ^ (q % 32) = r at *; omega
      refine Ev.succ ?_
      simp only [steelyardref02_Up.l0]
      rw [show (c : Int) % 4294967296 = ((c : Nat) : Int) by omega]
      refine Ev.ifn (by omega) (Ev.ifp (by omega) (Ev.bind (rTrim_to (m := 1000000) ⟨W_snoc hw (by omega) (by omega), by simp; omega⟩ (by omega) ?_) (Ev.now _)))
      rw [V_snoc, ho, Int.toNat_natCast, hv, V_take_all a (by omega), ← Nat.mul_assoc, hsp, Nat.mul_comm, h]
    | succ d ih =>
      intro i out c hi ho hw hc hv
      have hp := pow_lt_32 hs
      refine Ev.succ ?_
      simp only [steelyardref02_Up.l0, rd_nat]
      have g1 := W_get sa.1 i
      obtain ⟨x, hx⟩ := Int.eq_ofNat_of_zero_le g1.1
      have hxl : x < 4294967296 := by omega
      have hb : x * 2 ^ (q % 32) ≤ 4294967295 * 2 ^ (q % 32) := Nat.mul_le_mul_right _ (by omega)
      rw [hx, wu64 (x := (x : Int)) (by omega) (by omega), tmod32, wu64 (x := ((q % 32 : Nat) : Int)) (by omega) (by omega), shl_u64 x _ hxl hs, or_low c x _ hs hc hxl, w64_succ (by omega),
        show ((x * 2 ^ (q % 32) + c : Nat) : Int) / 4294967296 = (((x * 2 ^ (q % 32) + c) / 4294967296 : Nat) : Int) from (Int.natCast_ediv _ _).symm, show ((x * 2 ^ (q % 32) + c : Nat) : Int) % 4294967296 = (((x * 2 ^ (q % 32) + c) % 4294967296 : Nat) : Int) from (Int.natCast_emod _ _).symm]
      have hlt : (x * 2 ^ (q % 32) + c) % 4294967296 < 4294967296 := Nat.mod_lt _ (by omega)
      have hdv : (x * 2 ^ (q % 32) + c) / 4294967296 < 2 ^ (q % 32) := by
        generalize 2 ^ (q % 32) = r at *
        omega
      refine Ev.ifp (by omega) (Ev.ifp (by omega) (Ev.ifp (by omega) (Ev.ifp (by omega) ?_)))
      refine ih (i + 1) _ _ (by omega) (by rw [List.length_append, ho]; rfl) (W_snoc hw (Int.natCast_nonneg _) (by omega)) hdv ?_
      rw [V_snoc, V_take_succ, ho, hx, Int.toNat_natCast, Int.toNat_natCast, ← Nat.add_assoc, Nat.pow_succ]
      have e2 : 4294967296 * ((x * 2 ^ (q % 32) + c) / 4294967296) + (x * 2 ^ (q % 32) + c) % 4294967296 = x * 2 ^ (q % 32) + c := Nat.div_add_mod _ _
      have e3 := congrArg (4294967296 ^ (q / 32 + i) * ·) e2
      simp only [Nat.mul_add] at e3 ⊢
      rw [Nat.mul_assoc (4294967296 ^ (q / 32 + i)) 4294967296]
      have e4 : 4294967296 ^ (q / 32 + i) * (x * 2 ^ (q % 32)) = 4294967296 ^ (q / 32) * (2 ^ (q % 32) * (4294967296 ^ i * x)) := by
        rw [Nat.pow_add, Nat.mul_comm x, Nat.mul_assoc, Nat.mul_left_comm (4294967296 ^ i)]
      rw [← e4]
      omega
  unfold steelyardref02_Up.f
  rw [tdiv32, w64 (x := ((q / 32 : Nat) : Int)) (by omega) (by omega), ← Int.natCast_add, w64 (x := ((q / 32 + a.length : Nat) : Int)) (by omega) (by omega), w64_succ (by omega), Int.toNat_natCast, Int.toNat_natCast]
  refine Ev.ifp (by omega) (Ev.ifp (by omega) (Ev.ifp (by omega) ?_))
  exact key a.length 0 (List.replicate (q / 32) 0) 0 (by omega) (by rw [List.length_replicate]; rfl) (W_rep _) (Nat.two_pow_pos _) (by rw [V_rep]; simp [V])
theorem rDown_to (sa : S m a) (hm : m ≤ 1000000) (q : Nat) (hq : q < 4611686018427387904) (h : V a / 2 ^ q = n) : Ev (fun k => steelyardref02_Down.f k a (q : Int)) (L n) := by
  have hla := sa.2
  have hs : q % 32 < 32 := by omega
  have e0 : V (a.drop (q / 32)) / 2 ^ (q % 32) = n := by
    rw [← h, ← V_div a sa.1, pow32, Nat.div_div_eq_div_mul, ← Nat.pow_add, show 32 * (q / 32) + q % 32 = q by omega]
  have key : ∀ d i (out : List Int), a.length ≤ q / 32 + i + d → out.length = i → W out → i ≤ a.length → V out = V (a.drop (q / 32)) / 2 ^ (q % 32) % 4294967296 ^ i →
      Ev (fun k => steelyardref02_Down.l0 k a (q : Int) out ((q / 32 + i : Nat) : Int)) (L n) := by
    intro d
    induction d with
    | zero =>
      intro i out hi ho hw hil hv
      refine Ev.succ ?_
      simp only [steelyardref02_Down.l0]
      refine Ev.ifn (by omega) (Ev.bind (rTrim_to (m := 1000000) ⟨hw, by omega⟩ (by omega) ?_) (Ev.now _))
      rw [hv, ← e0]
      refine Nat.mod_eq_of_lt (Nat.lt_of_le_of_lt (Nat.div_le_self _ _) (G_V (W_drop sa.1 _) (by rw [List.length_drop]; omega)))
    | succ d ih =>
      intro i out hi ho hw hil hv
      by_cases hlt : q / 32 + i < a.length
      · refine Ev.succ ?_
        simp only [steelyardref02_Down.l0, rd_nat, tmod32]
        rw [w64_succ (by omega), rd_nat, wu64 (x := ((q % 32 : Nat) : Int)) (by omega) (by omega)]
        have g1 := W_get sa.1 (q / 32 + i)
        have g2 := W_get sa.1 (q / 32 + i + 1)
        obtain ⟨x, hx⟩ := Int.eq_ofNat_of_zero_le g1.1
        obtain ⟨y, hy⟩ := Int.eq_ofNat_of_zero_le g2.1
        have fin : Ev (fun k => steelyardref02_Down.l0 k a (q : Int) (out ++ [(((y * 4294967296 + x) / 2 ^ (q % 32) % 4294967296 : Nat) : Int)]) ((q / 32 + i + 1 : Nat) : Int)) (L n) := by
          have hml : (y * 4294967296 + x) / 2 ^ (q % 32) % 4294967296 < 4294967296 := Nat.mod_lt _ (by omega)
          refine ih (i + 1) _ (by omega) (by rw [List.length_append, ho]; rfl) (W_snoc hw (Int.natCast_nonneg _) (by omega)) (by omega) ?_
          rw [V_snoc, ho, hv, Nat.mod_pow_succ, down_limb (W_drop sa.1 _) i _ hs, get_drop, get_drop, ← Nat.add_assoc, hx, hy, Int.toNat_natCast, Int.toNat_natCast, Int.toNat_natCast]
        rw [hx, hy, wu64 (x := (x : Int)) (by omega) (by omega), wu64 (x := (y : Int)) (by omega) (by omega), wu64 (x := (y : Int) * 4294967296) (by omega) (by omega)]
        refine Ev.ifp (by omega) (Ev.ifp (by omega) ?_)
        by_cases h2 : q / 32 + i + 1 < a.length
        · refine Ev.ifp (by omega) (Ev.ifp (by omega) (Ev.ifp (by omega) (Ev.ifp (by omega) ?_)))
          have hor : Go.bits .or .u64 (x : Int) ((y : Int) * 4294967296) = ((y * 4294967296 + x : Nat) : Int) := by
            rw [← or_high y x (by omega) (by omega), show ((y : Int) * 4294967296) = ((y * 4294967296 : Nat) : Int) by omega, u64_or_nat _ _ (by omega) (by omega), u64_or_nat _ _ (by omega) (by omega), Nat.or_comm]
          rw [hor, shr_u64 _ _ hs, show (4294967296 : Int) = ((4294967296 : Nat) : Int) from rfl, ← Int.natCast_emod]
          exact fin
        · refine Ev.ifn (by omega) (Ev.ifp (by omega) (Ev.ifp (by omega) ?_))
          have hy0 : y = 0 := by
            rw [List.getD_eq_getElem?_getD, List.getElem?_eq_none (by omega)] at hy
            simp at hy
            omega
          rw [hy0, Nat.zero_mul, Nat.zero_add] at fin
          rw [shr_u64 _ _ hs, show (4294967296 : Int) = ((4294967296 : Nat) : Int) from rfl, ← Int.natCast_emod]
          exact fin
      · refine Ev.succ ?_
        simp only [steelyardref02_Down.l0]
        refine Ev.ifn (by omega) (Ev.bind (rTrim_to (m := 1000000) ⟨hw, by omega⟩ (by omega) ?_) (Ev.now _))
        rw [hv, ← e0]
        refine Nat.mod_eq_of_lt (Nat.lt_of_le_of_lt (Nat.div_le_self _ _) (G_V (W_drop sa.1 _) (by rw [List.length_drop]; omega)))
  unfold steelyardref02_Down.f
  rw [tdiv32, w64 (by omega) (by omega)]
  exact key a.length 0 [] (by omega) rfl W_nil (by omega) (by rw [V_nil, Nat.pow_zero, Nat.mod_one])
theorem rMul_to (sa : S m a) (sb : S p b) (hm : m + p < 300000) (h : V a * V b = n) : Ev (fun k => steelyardref02_Of.f k a b) (L n) := by
  have hla := sa.2
  have hlb := sb.2
  have bd : ∀ i, V a * V (b.take i) < Bp (m + p) := fun i => lt_mul sa.v (G_V (W_take sb.1 i) (by rw [List.length_take]; omega)) (Nat.le_refl _)
  have key : ∀ d i : Nat, b.length = i + d → Ev (fun k => steelyardref02_Of.l0 k a b (L (V a * V (b.take i))) (i : Int)) (L n) := by
    intro d
    induction d with
    | zero =>
      intro i hi
      refine Ev.succ ?_
      simp only [steelyardref02_Of.l0]
      refine Ev.ifn (by omega) (Ev.bind (rTrim_to (S_L (bd i)) (by omega) (V_L _)) ?_)
      rw [V_take_all b (by omega), h]
      exact Ev.now _
    | succ d ih =>
      intro i hi
      refine Ev.succ ?_
      simp only [steelyardref02_Of.l0, rd_nat]
      have g1 := W_get sb.1 i
      obtain ⟨x, hx⟩ := Int.eq_ofNat_of_zero_le g1.1
      rw [hx, show (32 : Int) * (i : Int) = ((32 * i : Nat) : Int) by omega, w64 (x := ((32 * i : Nat) : Int)) (by omega) (by omega), w64_succ (by omega)]
      have hx1 : x < Bp 1 := by rw [show Bp 1 = 4294967296 from rfl]; omega
      have e1 : V a * V (b.take (i + 1)) = V a * V (b.take i) + V a * x * 2 ^ (32 * i) := by
        rw [V_take_succ, hx, Int.toNat_natCast, Nat.mul_add, ← pow32, Nat.mul_comm (4294967296 ^ i) x, Nat.mul_assoc]
      have b2 : V a * x * 2 ^ (32 * i) < Bp (m + p) := lt_le (bd (i + 1)) (by rw [e1]; omega)
      refine Ev.ifp (by omega) (Ev.ifp (by omega) ?_)
      refine Ev.bind (rSmall_to sa (by omega) (by omega) (by omega) (n := V a * x) (by rw [Int.toNat_natCast])) ?_
      refine Ev.bind (rUp_to (S_L (lt_mul sa.v hx1 (Nat.le_refl _))) (by omega) (32 * i) (by omega) (n := V a * x * 2 ^ (32 * i)) (by rw [V_L])) ?_
      refine Ev.bind (rAdd_to (S_L (bd i)) (S_L b2) (by omega) (n := V a * V (b.take (i + 1))) (by rw [V_L, V_L, e1])) ?_
      exact ih (i + 1) (by omega)
  unfold steelyardref02_Of.f
  have := key b.length 0 (by omega)
  rw [List.take_zero, V_nil, Nat.mul_zero, L_zero] at this
  exact this
end
end Go.Proofs.Ytijjnjdfdoaafaa.Lib

/- The printed functions of package quo: quotients, what is left, the greatest divisor in common. -/
import Derived.Test.YtijjnjdfdoaafaaDoorLibM
import Derived.Test.YtijjnjdfdoaafaaDoorPxquo
set_option linter.unusedVariables false
set_option linter.unusedSimpArgs false
namespace Go.Proofs.YtijjnjdfdoaafaaDoor.Lib
open Go.RowKit Go.Proofs.YtijjnjdfdoaafaaDoorW.PrintWords Go.Proofs.YtijjnjdfdoaafaaDoorW.PrintMore Go.Proofs.YtijjnjdfdoaafaaDoor.P
theorem Div32_spec {h l y : Nat} (hh : h < y) (hy1 : y < 4294967296) (hl : l < 4294967296) :
    bits_Div32.f (h : Int) (l : Int) (y : Int) = some ((((h * 4294967296 + l) / y : Nat) : Int), (((h * 4294967296 + l) % y : Nat) : Int)) := by
  have hy : 0 < y := by omega
  have hq : (h * 4294967296 + l) / y < 4294967296 := by
    rw [Nat.div_lt_iff_lt_mul hy]
    have := Nat.mul_le_mul_right 4294967296 (show h + 1 ≤ y from hh)
    omega
  have hr : (h * 4294967296 + l) % y < y := Nat.mod_lt _ hy
  unfold bits_Div32.f
  rw [if_neg (by omega), if_neg (by omega), wu64 (x := (y : Int)) (by omega) (by omega), if_neg (by omega), wu64 (x := (h : Int)) (by omega) (by omega), wu64 (x := (l : Int)) (by omega) (by omega), wu64 (x := (h : Int) * 4294967296) (by omega) (by omega),
    or_high h l (by omega) hl, Int.tdiv_eq_ediv_of_nonneg (by omega), Int.tmod_eq_emod_of_nonneg (by omega), ← Int.natCast_ediv, ← Int.natCast_emod]
  generalize (h * 4294967296 + l) / y = q at *
  generalize (h * 4294967296 + l) % y = r at *
  rw [wu64 (x := (q : Int)) (by omega) (by omega), Int.emod_eq_of_lt (a := (q : Int)) (by omega) (by omega), Int.emod_eq_of_lt (a := (r : Int)) (by omega) (by omega)]
theorem V_drop_set (l : List Int) (i : Nat) (x : Int) (h : i < l.length) : V ((l.set i x).drop i) = x.toNat + 4294967296 * V (l.drop (i + 1)) := by
  rw [V_drop_cons _ (by simpa using h), List.drop_set_of_lt (by omega), List.getD_eq_getElem?_getD, List.getElem?_set_self (by simpa using h)]
  rfl
theorem div_step (D x v : Nat) (hv : 0 < v) : (x + 4294967296 * D) / v = (D % v * 4294967296 + x) / v + 4294967296 * (D / v) ∧ (x + 4294967296 * D) % v = (D % v * 4294967296 + x) % v := by
  have e : x + 4294967296 * D = (D % v * 4294967296 + x) + v * (4294967296 * (D / v)) := by
    have h := Nat.div_add_mod D v
    rw [Nat.mul_left_comm]
    omega
  rw [e, Nat.add_mul_div_left _ _ hv, Nat.add_mul_mod_self_left]
  exact ⟨rfl, rfl⟩
theorem QSmall_loop {a : List Int} (ha : W a) (hl : a.length ≤ 1000000) {v : Nat} (hv : 0 < v) (hv1 : v < 4294967296) : ∀ j (out : List Int) (r : Nat), j ≤ a.length → out.length = a.length → W out → (∀ i, i < j → out.getD i 0 = a.getD i 0) →
    V (out.drop j) = V (a.drop j) / v → r = V (a.drop j) % v → Ev (fun k => quo_Small.l0 k (v : Int) (r : Int) out ((j : Int) - 1)) (L (V a / v), ((V a % v : Nat) : Int), true) := by
  intro j
  induction j with
  | zero =>
    intro out r hj ho hw hs hV hr
    rw [List.drop_zero, List.drop_zero] at hV
    rw [List.drop_zero] at hr
    refine Ev.succ ?_
    simp only [quo_Small.l0]
    rw [← hr]
    exact Ev.ifn (by omega) (Ev.bind (Trim_to (m := 1000000) ⟨hw, by omega⟩ (by omega) hV) (Ev.now _))
  | succ j ih =>
    intro out r hj ho hw hs hV hr
    refine Ev.succ ?_
    simp only [quo_Small.l0]
    have g1 := W_get ha j
    obtain ⟨x, hx⟩ := Int.eq_ofNat_of_zero_le g1.1
    have hrv : r < v := by rw [hr]; exact Nat.mod_lt _ hv
    have hq : (r * 4294967296 + x) / v < 4294967296 := by
      rw [Nat.div_lt_iff_lt_mul hv]
      have := Nat.mul_le_mul_right 4294967296 (show r + 1 ≤ v from hrv)
      omega
    have ds := div_step (V (a.drop (j + 1))) x v hv
    rw [← hr] at ds
    rw [show (((j + 1 : Nat) : Int) - 1) = (j : Int) by omega, rd_nat, hs j (by omega), hx, Div32_spec hrv hv1 (by omega), Int.toNat_natCast]
    generalize (r * 4294967296 + x) / v = q1 at *
    generalize (r * 4294967296 + x) % v = r1 at *
    simp only [Option.bind_some]
    rw [w64 (x := (j : Int) - 1) (by omega) (by omega)]
    refine Ev.ifp (by omega) (Ev.ifp (by omega) (Ev.ifp (by omega) ?_))
    refine ih _ _ (by omega) (by rw [List.length_set]; exact ho) (W_set hw j (by omega) (by omega)) (fun i hi => by rw [get_set_ne _ _ (by omega)]; exact hs i (by omega)) ?_ ?_
    · rw [V_drop_set _ _ _ (by omega), hV, V_drop_cons a (i := j) (by omega), hx, Int.toNat_natCast, Int.toNat_natCast, ds.1]
    · rw [V_drop_cons a (i := j) (by omega), hx, Int.toNat_natCast, ds.2]
section
variable {m p n x y : Nat} {l a b : List Int}
theorem QSmall_no (v : Int) (h : v = 0) : Ev (fun k => quo_Small.f k a v) ([], 0, false) := by
  unfold quo_Small.f
  exact Ev.ifp h (Ev.now _)
theorem QSmall_to (sa : S m a) (hm : m ≤ 1000000) {v : Int} (h0 : 0 < v) (h1 : v < 4294967296) (h : V a / v.toNat = n) (hr : V a % v.toNat = x) : Ev (fun k => quo_Small.f k a v) (L n, (x : Int), true) := by
  obtain ⟨v, rfl⟩ := Int.eq_ofNat_of_zero_le (show 0 ≤ v by omega)
  rw [Int.toNat_natCast] at h hr
  unfold quo_Small.f
  have sL : S m (L (V a)) := S_L sa.v
  have hl := sL.2
  refine Ev.ifn (by omega) (Ev.bind (Trim_to sa hm rfl) ?_)
  rw [w64 (by omega) (by omega)]
  have := QSmall_loop (a := L (V a)) sL.1 (by omega) (v := v) (by omega) (by omega) (L (V a)).length (L (V a)) 0 (by omega) rfl sL.1 (fun _ _ => rfl) (by rw [List.drop_length, V_nil, Nat.zero_div]) (by rw [List.drop_length, V_nil, Nat.zero_mod])
  rw [V_L, h, hr] at this
  exact this
end
theorem quot_le {R D P x y z r0 d0 : Nat} (hz : 0 < z) (h1 : R = r0 + P * (y + 4294967296 * x)) (h2 : D = d0 + P * z) (h3 : r0 < P) : R / D ≤ (x * 4294967296 + y) / z := by
  rw [Nat.le_div_iff_mul_le hz]
  have h4 : R / D * D ≤ R := Nat.div_mul_le_self _ _
  generalize R / D = Q at *
  have h5 : Q * (P * z) ≤ Q * D := Nat.mul_le_mul_left _ (by omega)
  have h6 : P * (Q * z) < P * (y + 4294967296 * x + 1) := by
    rw [Nat.mul_left_comm] at h5
    rw [Nat.mul_add _ (y + 4294967296 * x), Nat.mul_one]
    omega
  have h7 := Nat.lt_of_mul_lt_mul_left h6
  omega
theorem row_eq (n : Nat) (left : List Int) (h : left.length ≤ n) (x : Int) : (cpy (List.replicate (n + 1) 0) 1 left).set 0 x = x :: (left ++ List.replicate (n - left.length) 0) := by
  simp [cpy, List.take_of_length_le h, List.replicate_succ, Nat.add_comm 1 left.length]
section
variable {m p n x y q r : Nat} {l a b : List Int}
end
end Go.Proofs.YtijjnjdfdoaafaaDoor.Lib

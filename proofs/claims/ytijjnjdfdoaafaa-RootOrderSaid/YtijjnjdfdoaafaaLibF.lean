/- The printed functions of package quo: quotients, what is left, the greatest divisor in common. -/
import Derived.Test.YtijjnjdfdoaafaaLibM
import Derived.Test.YtijjnjdfdoaafaaPxquo
set_option linter.unusedVariables false
set_option linter.unusedSimpArgs false
namespace Go.Proofs.Ytijjnjdfdoaafaa.Lib
open Go.RowKit Go.Proofs.YtijjnjdfdoaafaaW.PrintWords Go.Proofs.YtijjnjdfdoaafaaW.PrintMore Go.Proofs.Ytijjnjdfdoaafaa.P
theorem Div32_spec {h l y : Nat} (hh : h < y) (hy1 : y < 4294967296) (hl : l < 4294967296) :
    bits_Div32.f (h : Int) (l : Int) (y : Int) = some ((((h * 4294967296 + l) / y : Nat) : Int), (((h * 4294967296 + l) % y : Nat) : Int)) := by
  have hy : 0 < y := by omega
  have hq : (h * 4294967296 + l) / y < 4294967296 := by
    rw [Nat.div_lt_iff_lt_mul hy]
    have := Nat.mul_le_mul_right 4294967296 (show h + 1 ≤ y from hh)
    omega
  have hr : (h * 4294967296 + l) % y < y := Nat.mod_lt _ hy
  unfold bits_Div32.f
  rw [if_neg (by omega), if_neg (by omega), wu64 (x := (y : Int)) (by omega) (by omega), if_neg (by omega), wu64 (x := (h : Int)) (by omega) (by omega), wu64 (x := (l : Int)) (by omega) (by omega), wu64 (x := (h : Int) * 4294967296) (by omega) (by omega),
    or_high h l (by omega) hl, Int.tdiv_eq_ediv_of_nonneg (by omega), Int.tmod_eq_emod_of_nonneg (by omega), ← Int.natCast_ediv, ← Int.natCast_emod]
  generalize (h * 4294967296 + l) / y = q at *
  generalize (h * 4294967296 + l) % y = r at *
  rw [wu64 (x := (q : Int)) (by omega) (by omega), Int.emod_eq_of_lt (a := (q : Int)) (by omega) (by omega), Int.emod_eq_of_lt (a := (r : Int)) (by omega) (by omega)]
theorem V_drop_set (l : List Int) (i : Nat) (x : Int) (h : i < l.length) : V ((l.set i x).drop i) = x.toNat + 4294967296 * V (l.drop (i + 1)) := by
  rw [V_drop_cons _ (by simpa using h), List.drop_set_of_lt (by omega), List.getD_eq_getElem?_getD, List.getElem?_set_self (by simpa using h)]
  rfl
theorem div_step (D x v : Nat) (hv : 0 < v) : (x + 4294967296 * D) / v = (D % v * 4294967296 + x) / v + 4294967296 * (D / v) ∧ (x + 4294967296 * D) % v = (D % v * 4294967296 + x) % v := by
  have e : x + 4294967296 * D = (D % v * 4294967296 + x) + v * (4294967296 * (D / v)) := by
    have h := Nat.div_add_mod D v
    rw [Nat.mul_left_comm]
    omega
  rw [e, Nat.add_mul_div_left _ _ hv, Nat.add_mul_mod_self_left]
  exact ⟨rfl, rfl⟩
theorem QSmall_loop {a : List Int} (ha : W a) (hl : a.length ≤ 1000000) {v : Nat} (hv : 0 < v) (hv1 : v < 4294967296) : ∀ j (out : List Int) (r : Nat), j ≤ a.length → out.length = a.length → W out → (∀ i, i < j → out.getD i 0 = a.getD i 0) →
    V (out.drop j) = V (a.drop j) / v → r = V (a.drop j) % v → Ev (fun k => quo_Small.l0 k (v : Int) (r : Int) out ((j : Int) - 1)) (L (V a / v), ((V a % v : Nat) : Int), true) := by
  intro j
  induction j with
  | zero =>
    intro out r hj ho hw hs hV hr
    rw [List.drop_zero, List.drop_zero] at hV
    rw [List.drop_zero] at hr
    refine Ev.succ ?_
    simp only [quo_Small.l0]
    rw [← hr]
    exact Ev.ifn (by omega) (Ev.bind (Trim_to (m := 1000000) ⟨hw, by omega⟩ (by omega) hV) (Ev.now _))
  | succ j ih =>
    intro out r hj ho hw hs hV hr
    refine Ev.succ ?_
    simp only [quo_Small.l0]
    have g1 := W_get ha j
    obtain ⟨x, hx⟩ := Int.eq_ofNat_of_zero_le g1.1
    have hrv : r < v := by rw [hr]; exact Nat.mod_lt _ hv
    have hq : (r * 4294967296 + x) / v < 4294967296 := by
      rw [Nat.div_lt_iff_lt_mul hv]
      have := Nat.mul_le_mul_right 4294967296 (show r + 1 ≤ v from hrv)
      omega
    have ds := div_step (V (a.drop (j + 1))) x v hv
    rw [← hr] at ds
    rw [show (((j + 1 : Nat) : Int) - 1) = (j : Int) by omega, rd_nat, hs j (by omega), hx, Div32_spec hrv hv1 (by omega), Int.toNat_natCast]
    generalize (r * 4294967296 + x) / v = q1 at *
    generalize (r * 4294967296 + x) % v = r1 at *
    simp only [Option.bind_some]
    rw [w64 (x := (j : Int) - 1) (by omega) (by omega)]
    refine Ev.ifp (by omega) (Ev.ifp (by omega) (Ev.ifp (by omega) ?_))
    refine ih _ _ (by omega) (by rw [List.length_set]; exact ho) (W_set hw j (by omega) (by omega)) (fun i hi => by rw [get_set_ne _ _ (by omega)]; exact hs i (by omega)) ?_ ?_
    · rw [V_drop_set _ _ _ (by omega), hV, V_drop_cons a (i := j) (by omega), hx, Int.toNat_natCast, Int.toNat_natCast, ds.1]
    · rw [V_drop_cons a (i := j) (by omega), hx, Int.toNat_natCast, ds.2]
section
variable {m p n x y : Nat} {l a b : List Int}
theorem QSmall_no (v : Int) (h : v = 0) : Ev (fun k => quo_Small.f k a v) ([], 0, false) := by
  unfold quo_Small.f
  exact Ev.ifp h (Ev.now _)
theorem QSmall_to (sa : S m a) (hm : m ≤ 1000000) {v : Int} (h0 : 0 < v) (h1 : v < 4294967296) (h : V a / v.toNat = n) (hr : V a % v.toNat = x) : Ev (fun k => quo_Small.f k a v) (L n, (x : Int), true) := by
  obtain ⟨v, rfl⟩ := Int.eq_ofNat_of_zero_le (show 0 ≤ v by omega)
  rw [Int.toNat_natCast] at h hr
  unfold quo_Small.f
  have sL : S m (L (V a)) := S_L sa.v
  have hl := sL.2
  refine Ev.ifn (by omega) (Ev.bind (Trim_to sa hm rfl) ?_)
  rw [w64 (by omega) (by omega)]
  have := QSmall_loop (a := L (V a)) sL.1 (by omega) (v := v) (by omega) (by omega) (L (V a)).length (L (V a)) 0 (by omega) rfl sL.1 (fun _ _ => rfl) (by rw [List.drop_length, V_nil, Nat.zero_div]) (by rw [List.drop_length, V_nil, Nat.zero_mod])
  rw [V_L, h, hr] at this
  exact this
end
theorem quot_le {R D P x y z r0 d0 : Nat} (hz : 0 < z) (h1 : R = r0 + P * (y + 4294967296 * x)) (h2 : D = d0 + P * z) (h3 : r0 < P) : R / D ≤ (x * 4294967296 + y) / z := by
  rw [Nat.le_div_iff_mul_le hz]
  have h4 : R / D * D ≤ R := Nat.div_mul_le_self _ _
  generalize R / D = Q at *
  have h5 : Q * (P * z) ≤ Q * D := Nat.mul_le_mul_left _ (by omega)
  have h6 : P * (Q * z) < P * (y + 4294967296 * x + 1) := by
    rw [Nat.mul_left_comm] at h5
    rw [Nat.mul_add _ (y + 4294967296 * x), Nat.mul_one]
    omega
  have h7 := Nat.lt_of_mul_lt_mul_left h6
  omega
theorem guess_val {row b : List Int} {m x y z : Nat} (hlb : b.length = m + 1) (hl : row.length = m + 2) (hm : m ≤ 1000000) (hx : row.getD (m + 1) 0 = (x : Int)) (hy : row.getD m 0 = (y : Int)) (hz : b.getD m 0 = (z : Int))
    (x1 : x < 4294967296) (y1 : y < 4294967296) (z1 : z < 4294967296) (z0 : 0 < z) : quo_guess.f row b = some ((min ((x * 4294967296 + y) / z) 4294967295 : Nat) : Int) := by
  have ht : (x * 4294967296 + y) / z ≤ x * 4294967296 + y := Nat.div_le_self _ _
  unfold quo_guess.f
  rw [hlb, show (((m + 1 : Nat) : Int) - 1) = (m : Int) by omega, w64 (x := (m : Int)) (by omega) (by omega), rd_nat, rd_nat, rd_nat, hx, hy, hz, hl, wu64 (x := (x : Int)) (by omega) (by omega), wu64 (x := (y : Int)) (by omega) (by omega), wu64 (x := (z : Int)) (by omega) (by omega),
    wu64 (x := (x : Int) * 4294967296) (by omega) (by omega), or_high x y (by omega) (by omega), Int.tdiv_eq_ediv_of_nonneg (by omega), ← Int.natCast_ediv]
  generalize (x * 4294967296 + y) / z = t at *
  rw [if_pos (by omega), if_pos (by omega), if_pos (by omega), if_pos (by omega), if_pos (by omega), if_neg (by omega), wu64 (x := (t : Int)) (by omega) (by omega), show mn (t : Int) 4294967295 = ((min t 4294967295 : Nat) : Int) from mn_nat t 4294967295, Int.emod_eq_of_lt (by omega) (by omega)]
theorem guess_spec {row b : List Int} (hr : W row) (hb : W b) {m : Nat} (hlb : b.length = m + 1) (hl : row.length = m + 2) (hm : m ≤ 1000000) (hlast : b.getD m 0 ≠ 0) (hlt : V row < V b * 4294967296) :
    ∃ q : Nat, quo_guess.f row b = some (q : Int) ∧ q < 4294967296 ∧ V row / V b ≤ q := by
  have gx := W_get hr (m + 1)
  have gy := W_get hr m
  have gz := W_get hb m
  obtain ⟨x, hx⟩ := Int.eq_ofNat_of_zero_le gx.1
  obtain ⟨y, hy⟩ := Int.eq_ofNat_of_zero_le gy.1
  obtain ⟨z, hz⟩ := Int.eq_ofNat_of_zero_le gz.1
  have hz0 : 0 < z := by omega
  have h1 := V_take_add row m
  rw [Nat.min_eq_left (by omega), V_drop_cons row (i := m) (by omega), V_drop_cons row (i := m + 1) (by omega), List.drop_of_length_le (by omega), V_nil, hx, hy, Int.toNat_natCast, Int.toNat_natCast, Nat.mul_zero, Nat.add_zero] at h1
  have h2 := V_take_add b m
  rw [Nat.min_eq_left (by omega), V_drop_cons b (i := m) (by omega), List.drop_of_length_le (by omega), V_nil, hz, Int.toNat_natCast, Nat.mul_zero, Nat.add_zero] at h2
  have hQ2 := quot_le hz0 h1 h2 (V_take_lt hr m)
  have hQ : V row / V b < 4294967296 := Nat.div_lt_of_lt_mul hlt
  refine ⟨_, guess_val hlb hl hm hx hy hz (by omega) (by omega) (by omega) hz0, ?_, ?_⟩
  · generalize (x * 4294967296 + y) / z = t at *
    omega
  · generalize (x * 4294967296 + y) / z = t at *
    generalize V row / V b = q at *
    omega
theorem less_spec {row b : List Int} {M Q R : Nat} (hM : M < 1000000) (sr : S M row) (sb : S M b) (hb : V b ≠ 0) (hQ : V row / V b = Q) (hR : V row % V b = R) : ∀ d q : Nat, q = Q + d → q < 4294967296 →
    Ev (fun k => quo_less.l0 k row b (q : Int)) (L R, (Q : Int)) := by
  have hlt : ∀ q, q < 4294967296 → V b * q < Bp (M + 1) := fun q hq => lt_mul sb.v (show q < Bp 1 from by rw [show Bp 1 = 4294967296 from rfl]; exact hq) (Nat.le_refl _)
  intro d
  induction d with
  | zero =>
    intro q hq h
    rw [Nat.add_zero] at hq
    subst hq
    refine Ev.succ ?_
    simp only [quo_less.l0]
    refine Ev.bind (Small_to sb hM (by omega) (by omega) rfl) (Ev.bind (Sub_to (m := M + 1) (sr.up (by omega)) (S_L (by rw [Int.toNat_natCast]; exact hlt q h)) (by omega) (n := R) ?_) (Ev.ifp rfl (Ev.now _)))
    rw [V_L, Int.toNat_natCast, ← hQ, ← hR]
    exact (Nat.div_add_mod _ _).symm
  | succ d ih =>
    intro q hq h
    refine Ev.succ ?_
    simp only [quo_less.l0]
    refine Ev.bind (Small_to sb hM (by omega) (by omega) rfl) (Ev.bind (Sub_no (m := M + 1) (sr.up (by omega)) (S_L (by rw [Int.toNat_natCast]; exact hlt q h)) (by omega) ?_) (Ev.ifn (by decide) ?_))
    · rw [V_L, Int.toNat_natCast, hq]
      have h1 := Nat.lt_mul_div_succ (V row) (show 0 < V b by omega)
      rw [hQ] at h1
      exact Nat.lt_of_lt_of_le h1 (Nat.mul_le_mul_left (V b) (by omega))
    · have := ih (q - 1) (by omega) (by omega)
      rw [show (((q - 1 : Nat) : Int)) = ((q : Int) - 1) % 4294967296 by omega] at this
      exact this
theorem row_eq (n : Nat) (left : List Int) (h : left.length ≤ n) (x : Int) : (cpy (List.replicate (n + 1) 0) 1 left).set 0 x = x :: (left ++ List.replicate (n - left.length) 0) := by
  simp [cpy, List.take_of_length_le h, List.replicate_succ, Nat.add_comm 1 left.length]
theorem Rem_loop {a b : List Int} (ha : W a) (hb : W b) (hla : a.length ≤ 900000) (hlb : b.length ≤ 900000) {m : Nat} (hbm : b.length = m + 1) (hlast : b.getD m 0 ≠ 0) (hb0 : V b ≠ 0) (s : Nat) (hs : s < 32) :
    ∀ j (q left : List Int), j ≤ a.length → q.length = a.length → W q → V (q.drop j) = V (a.drop j) / V b → left = L (V (a.drop j) % V b) →
    Ev (fun k => quo_Rem.l0 k a b q (s : Int) left ((j : Int) - 1)) (L (V a / V b), L (V a % V b / 2 ^ s), true) := by
  intro j
  induction j with
  | zero =>
    intro q left hj ho hw hV hr
    rw [List.drop_zero, List.drop_zero] at hV
    rw [List.drop_zero] at hr
    have hlt : V a % V b < Bp b.length := Nat.lt_of_lt_of_le (Nat.mod_lt _ (by omega)) (Nat.le_of_lt (V_lt hb))
    refine Ev.succ ?_
    simp only [quo_Rem.l0]
    rw [w64 (x := -(s : Int)) (by omega) (by omega), hr]
    refine Ev.ifn (by omega) (Ev.bind (Trim_to (m := 1000000) ⟨hw, by omega⟩ (by omega) hV) (Ev.bind (Shift_to (S_L hlt) (by omega) (by omega) (by omega) (by rw [V_L]; exact shf_down' _ _ (by omega))) (Ev.now _)))
  | succ j ih =>
    intro q left hj ho hw hV hr
    have hlt : V (a.drop (j + 1)) % V b < V b := Nat.mod_lt _ (by omega)
    have hll : left.length ≤ b.length := by rw [hr]; exact L_len_le (Nat.lt_trans hlt (V_lt hb))
    have hvl : V left = V (a.drop (j + 1)) % V b := by rw [hr, V_L]
    have hwl : W left := by rw [hr]; exact W_L _
    refine Ev.succ ?_
    simp only [quo_Rem.l0]
    have g1 := W_get ha j
    obtain ⟨x, hx⟩ := Int.eq_ofNat_of_zero_le g1.1
    have hxl : x < 4294967296 := by omega
    rw [w64_succ (i := b.length) (by omega), Int.toNat_natCast, show (((j + 1 : Nat) : Int) - 1) = (j : Int) by omega, rd_nat, hx, Int.toNat_natCast, w64 (x := (j : Int) - 1) (by omega) (by omega), show ((0 : Int)).toNat = 0 from rfl]
    simp only [Option.bind_some]
    rw [row_eq b.length left hll]
    have hwr : W ((x : Int) :: (left ++ List.replicate (b.length - left.length) 0)) := by
      rw [W_cons, W_app]
      exact ⟨⟨by omega, by omega⟩, hwl, W_rep _⟩
    have hlr : ((x : Int) :: (left ++ List.replicate (b.length - left.length) 0)).length = m + 2 := by
      rw [List.length_cons, List.length_append, List.length_replicate]; omega
    have hvr : V ((x : Int) :: (left ++ List.replicate (b.length - left.length) 0)) = V (a.drop (j + 1)) % V b * 4294967296 + x := by
      rw [V_cons, V_app, V_rep, hvl, Int.toNat_natCast]; omega
    generalize ((x : Int) :: (left ++ List.replicate (b.length - left.length) 0)) = row at *
    have hrl : V row < V b * 4294967296 := by rw [hvr]; omega
    obtain ⟨g, hg, hg1, hg2⟩ := guess_spec hwr hb hbm hlr (by omega) hlast hrl
    have ds := div_step (V (a.drop (j + 1))) x (V b) (by omega)
    rw [← hvr] at ds
    have hQ : V row / V b < 4294967296 := Nat.div_lt_of_lt_mul hrl
    obtain ⟨Q, eQ⟩ : ∃ Q, V row / V b = Q := ⟨_, rfl⟩
    obtain ⟨R, eR⟩ : ∃ R, V row % V b = R := ⟨_, rfl⟩
    rw [eQ] at hQ hg2
    rw [eQ, eR] at ds
    rw [hg]
    simp only [Option.bind_some]
    refine Ev.ifp (by omega) (Ev.ifp (by omega) (Ev.ifp (by omega) (Ev.ifp (by rw [List.length_replicate]; omega) (Ev.ifp (by omega) (Ev.ifp (by omega) (Ev.ifp (by rw [List.length_replicate]; omega) ?_))))))
    unfold quo_less.f
    refine Ev.bind (less_spec (M := m + 2) (by omega) ⟨hwr, by omega⟩ ⟨hb, by omega⟩ hb0 eQ eR (g - Q) g (by omega) hg1) (Ev.ifp (by omega) ?_)
    refine ih _ _ (by omega) (by rw [List.length_set]; exact ho) (W_set hw j (by omega) (by omega)) ?_ ?_
    · rw [V_drop_set _ _ _ (by omega), hV, V_drop_cons a (i := j) (by omega), hx, Int.toNat_natCast, Int.toNat_natCast, ds.1]
    · rw [V_drop_cons a (i := j) (by omega), hx, Int.toNat_natCast, ds.2]
section
variable {m p n x y q r : Nat} {l a b : List Int}
theorem Rem_no (sb : S p b) (hp : p ≤ 800000) (h : V b = 0) : Ev (fun k => quo_Rem.f k a b) ([], [], false) := by
  unfold quo_Rem.f
  refine Ev.bind (Trim_to sb (by omega) h) (Ev.ifp ?_ (Ev.now _))
  rw [L_zero]; rfl
theorem Rem_to (sa : S m a) (sb : S p b) (hm : m ≤ 800000) (hp : p ≤ 800000) (h0 : V b ≠ 0) (hq : V a / V b = q) (hr : V a % V b = r) : Ev (fun k => quo_Rem.f k a b) (L q, L r, true) := by
  have sL : S p (L (V b)) := S_L sb.v
  have hl := sL.2
  have hpos : (L (V b)).length ≠ 0 := fun e => h0 (L_len_zero.1 e)
  have hlast := L_last h0
  unfold quo_Rem.f
  refine Ev.bind (Trim_to sb (by omega) rfl) ?_
  have g1 := W_get sL.1 ((L (V b)).length - 1)
  obtain ⟨z, hz⟩ := Int.eq_ofNat_of_zero_le g1.1
  have hz0 : z ≠ 0 := by omega
  have hz1 : z < 4294967296 := by omega
  have hbz := bl_pos hz0
  have hbz2 : bl z ≤ 32 := bl_le_iff.2 hz1
  obtain ⟨s, hs⟩ : ∃ s, 32 - bl z = s := ⟨_, rfl⟩
  have hlz : bits_LeadingZeros32.f (z : Int) = some (s : Int) := by
    unfold bits_LeadingZeros32.f
    rw [Len32_spec hz1]
    simp only [Option.bind_some]
    rw [w64 (by omega) (by omega)]
    exact congrArg some (by omega)
  have hp2 : 2 ^ s < Bp 1 := two_lt (by omega)
  have la : V a * 2 ^ s < Bp (m + 1) := lt_mul sa.v hp2 (Nat.le_refl _)
  have lb : V b * 2 ^ s < Bp (p + 1) := lt_mul sb.v hp2 (Nat.le_refl _)
  have hb0 : V b * 2 ^ s ≠ 0 := Nat.mul_ne_zero h0 (Nat.pos_iff_ne_zero.1 (Nat.two_pow_pos s))
  have sA : S (m + 1) (L (V a * 2 ^ s)) := S_L la
  have sB : S (p + 1) (L (V b * 2 ^ s)) := S_L lb
  have hlA := sA.2
  have hlB := sB.2
  have hpB : (L (V b * 2 ^ s)).length ≠ 0 := fun e => hb0 (L_len_zero.1 e)
  rw [w64_pred (by omega) (by omega), rd_nat, hz, hlz]
  simp only [Option.bind_some]
  refine Ev.ifn (by omega) (Ev.ifp (by omega) (Ev.ifp (by omega) ?_))
  refine Ev.bind (Shift_to sa (by omega) (by omega) (by omega) (shf_up _ _ (by omega))) ?_
  refine Ev.bind (Shift_to sL (by omega) (by omega) (by omega) (n := V b * 2 ^ s) (by rw [V_L]; exact shf_up _ _ (by omega))) ?_
  rw [Int.toNat_natCast, w64 (by omega) (by omega)]
  refine Ev.ifp (by omega) (Ev.ifp (by omega) ?_)
  have := Rem_loop sA.1 sB.1 (by omega) (by omega) (m := (L (V b * 2 ^ s)).length - 1) (by omega) (L_last hb0) (by rw [V_L]; exact hb0) s (by omega) (L (V a * 2 ^ s)).length (List.replicate (L (V a * 2 ^ s)).length 0) [] (by omega) (by rw [List.length_replicate]) (W_rep _)
    (by rw [List.drop_length, V_nil, Nat.zero_div, List.drop_replicate, V_rep]) (by rw [List.drop_length, V_nil, Nat.zero_mod, L_zero])
  rw [V_L, V_L, Nat.mul_div_mul_right _ _ (Nat.two_pow_pos s), Nat.mul_mod_mul_right, Nat.mul_div_cancel _ (Nat.two_pow_pos s), hq, hr] at this
  exact this
theorem Gcd_to (sa : S m a) (sb : S m b) (hm : m ≤ 800000) (h : Nat.gcd (V a) (V b) = n) : Ev (fun k => quo_Gcd.f k a b) (L n) := by
  have key : ∀ y x, x < Bp m → y < Bp m → Ev (fun k => quo_Gcd.l0 k (L x) (L y)) (L (Nat.gcd x y)) := by
    intro y
    induction y using Nat.strongRecOn with
    | ind y ih =>
      intro x hx hy
      refine Ev.succ ?_
      simp only [quo_Gcd.l0]
      by_cases h0 : y = 0
      · subst h0
        rw [L_zero, Nat.gcd_zero_right]
        exact Ev.ifn (by decide) (Ev.now _)
      · have hl : (L y).length ≠ 0 := fun e => h0 (L_len_zero.1 e)
        refine Ev.ifp (by omega) (Ev.bind (Rem_to (S_L hx) (S_L hy) hm hm (by rw [V_L]; exact h0) rfl rfl) ?_)
        have hlt := Nat.mod_lt x (show 0 < y by omega)
        have := ih (x % y) hlt y hy (Nat.lt_trans hlt hy)
        rw [V_L, V_L]
        rw [Nat.gcd_comm y, ← Nat.gcd_rec y x, Nat.gcd_comm y] at this
        exact this
  unfold quo_Gcd.f
  refine Ev.bind (Trim_to sa (by omega) rfl) (Ev.bind (Trim_to sb (by omega) rfl) ?_)
  rw [← h]
  exact key _ _ sa.v sb.v
end
end Go.Proofs.Ytijjnjdfdoaafaa.Lib

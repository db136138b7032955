/- The printed functions of package digits: a number's text, a text's number, powers of ten. -/
import Derived.Test.YtijjnjdfdoaafaaDoorLibS2
import Derived.Test.YtijjnjdfdoaafaaDoorLibM
import Derived.Test.YtijjnjdfdoaafaaDoorLibF
import Derived.Test.YtijjnjdfdoaafaaDoorPxdigits
set_option linter.unusedVariables false
set_option linter.unusedSimpArgs false
namespace Go.Proofs.YtijjnjdfdoaafaaDoor.Lib
open Go.RowKit Go.Proofs.YtijjnjdfdoaafaaDoorW.PrintWords Go.Proofs.YtijjnjdfdoaafaaDoorW.PrintMore Go.Proofs.YtijjnjdfdoaafaaDoor.P
theorem list_ext_getD {a b : List Int} (hl : a.length = b.length) (h : ∀ i, i < a.length → a.getD i 0 = b.getD i 0) : a = b := by
  apply List.ext_getElem? 
  intro i
  by_cases hi : i < a.length
  · have := h i hi
    rw [List.getD_eq_getElem?_getD, List.getD_eq_getElem?_getD, List.getElem?_eq_getElem hi, List.getElem?_eq_getElem (by omega), Option.getD_some, Option.getD_some] at this
    rw [List.getElem?_eq_getElem hi, List.getElem?_eq_getElem (by omega), this]
  · rw [List.getElem?_eq_none (by omega), List.getElem?_eq_none (by omega)]
theorem get_set_eq (l : List Int) (i : Nat) (x : Int) (h : i < l.length) : (l.set i x).getD i 0 = x := by
  rw [List.getD_eq_getElem?_getD, List.getElem?_set_self h]; rfl
theorem get_rev (l : List Int) {i : Nat} (h : i < l.length) : l.reverse.getD i 0 = l.getD (l.length - 1 - i) 0 := by
  rw [List.getD_eq_getElem?_getD, List.getD_eq_getElem?_getD, List.getElem?_reverse h]
/-- Two places that run towards each other and are swapped: what it comes to. -/
theorem swap_step {l x : List Int} {i j : Nat} (hl : x.length = l.length) (hij : i < j) (hj : i + j + 1 = l.length)
    (hx : ∀ t, t < l.length → x.getD t 0 = if t < i ∨ j < t then l.getD (l.length - 1 - t) 0 else l.getD t 0) :
    ∀ t, t < l.length → ((x.set i (x.getD j 0)).set j (x.getD i 0)).getD t 0 = if t < i + 1 ∨ j - 1 < t then l.getD (l.length - 1 - t) 0 else l.getD t 0 := by
  intro t ht
  by_cases h1 : t = j
  · subst h1
    rw [get_set_eq _ _ _ (by rw [List.length_set]; omega), hx i (by omega), if_neg (by omega), if_pos (by omega)]
    congr 1
    omega
  · rw [get_set_ne _ _ (fun h => h1 h.symm)]
    by_cases h2 : t = i
    · subst h2
      rw [get_set_eq _ _ _ (by omega), hx j (by omega), if_neg (by omega), if_pos (by omega)]
      congr 1
      omega
    · rw [get_set_ne _ _ (fun h => h2 h.symm), hx t ht]
      by_cases h3 : t < i ∨ j < t
      · rw [if_pos h3, if_pos (by omega)]
      · rw [if_neg h3, if_neg (by omega)]
theorem swap_end {l x : List Int} {i : Nat} {j : Int} (hl : x.length = l.length) (hij : ¬ (i : Int) < j) (hj : (i : Int) + j + 1 = l.length)
    (hx : ∀ t, t < l.length → x.getD t 0 = if t < i ∨ j < (t : Int) then l.getD (l.length - 1 - t) 0 else l.getD t 0) : x = l.reverse := by
  refine list_ext_getD (by rw [List.length_reverse]; exact hl) fun t ht => ?_
  rw [get_rev l (by omega), hx t (by omega)]
  by_cases h : t < i ∨ j < (t : Int)
  · rw [if_pos h]
  · rw [if_neg h]
    congr 1
    omega
theorem Rev_to {l : List Int} (hl : l.length ≤ 1000000) : Ev (fun k => slices_Reverse_byte_byte.f k l) l.reverse := by
  have key : ∀ (d i : Nat) (j : Int) (x : List Int), j ≤ (i : Int) + d → x.length = l.length → (i : Int) + j + 1 = l.length →
      (∀ t, t < l.length → x.getD t 0 = if t < i ∨ j < (t : Int) then l.getD (l.length - 1 - t) 0 else l.getD t 0) → Ev (fun k => slices_Reverse_byte_byte.l0 k x (i : Int) j) l.reverse := by
    intro d
    induction d using Nat.strongRecOn with
    | ind d ih =>
      intro i j x hd hxl hij hx
      by_cases hlt : (i : Int) < j
      · obtain ⟨m, rfl⟩ := Int.eq_ofNat_of_zero_le (show 0 ≤ j by omega)
        refine Ev.succ ?_
        simp only [slices_Reverse_byte_byte.l0, rd_nat, Int.toNat_natCast]
        rw [w64_succ (by omega), w64 (x := (m : Int) - 1) (by omega) (by omega)]
        refine Ev.ifp hlt (Ev.ifp (by omega) (Ev.ifp (by omega) (Ev.ifp (by omega) (Ev.ifp (by omega) ?_))))
        have hs := swap_step hxl (show i < m by omega) (by omega) (fun t ht => by
          have := hx t ht
          rw [this]
          by_cases c : t < i ∨ m < t
          · rw [if_pos c, if_pos (by omega)]
          · rw [if_neg c, if_neg (by omega)])
        refine ih (d - 2) (by omega) (i + 1) ((m : Int) - 1) _ (by omega) (by rw [List.length_set, List.length_set]; exact hxl) (by omega) (fun t ht => ?_)
        rw [hs t ht]
        by_cases c : t < i + 1 ∨ m - 1 < t
        · rw [if_pos c, if_pos (by omega)]
        · rw [if_neg c, if_neg (by omega)]
      · refine Ev.succ ?_
        simp only [slices_Reverse_byte_byte.l0]
        rw [swap_end hxl hlt hij hx]
        exact Ev.ifn hlt (Ev.now _)
  unfold slices_Reverse_byte_byte.f
  rw [w64 (x := (l.length : Int) - 1) (by omega) (by omega)]
  exact key l.length 0 ((l.length : Int) - 1) l (by omega) rfl (by omega) (fun t ht => by rw [if_neg (by omega)])
/-- The nine digits that a limb of a thousand million has, the lowest first, one behind the other. -/
theorem digs_step (d : List Int) (hd : Dg d) (x : Nat) : Dg (d ++ [((48 + x % 10 : Nat) : Int)]) ∧ lv (d ++ [((48 + x % 10 : Nat) : Int)]) = lv d + 10 ^ d.length * (x % 10) := by
  refine ⟨Dg_app.2 ⟨hd, by rw [Dg_cons]; exact ⟨by omega, Dg_nil⟩⟩, ?_⟩
  rw [lv_app]
  simp only [lv, Nat.mul_zero, Nat.add_zero]
  congr 2
  omega
theorem strip_last {l : List Int} (hd : Dg l) (h0 : l.length ≠ 0) (h : l.getD (l.length - 1) 0 = 48) : lv (l.take (l.length - 1)) = lv l := by
  have e := lv_app (l.take (l.length - 1)) (l.drop (l.length - 1))
  rw [List.take_append_drop] at e
  have e2 : l.drop (l.length - 1) = [48] := by
    rw [List.drop_eq_getElem_cons (by omega), List.drop_of_length_le (by omega)]
    rw [List.getD_eq_getElem?_getD, List.getElem?_eq_getElem (by omega), Option.getD_some] at h
    rw [h]
  rw [e2] at e
  simp [lv] at e
  exact e.symm
/-- A number's text, as a string. -/
def T (n : Nat) : ByteArray := strOfNums (tx n)
theorem ns_T (n : Nat) : ns (T n) = tx n := ns_strOf (Dg_B8 (Dg_tx n))
theorem Text_strip : ∀ (m : Nat) (x : List Int), x.length = m → m ≤ 900000 → Dg x → Ev (fun k => digits_Text.l2 k x) (T (lv x)) := by
  intro m
  induction m with
  | zero =>
    intro x hx hm hd
    obtain rfl := List.length_eq_zero_iff.1 hx
    refine Ev.succ ?_
    simp only [digits_Text.l2]
    exact Ev.ifn (by decide) (Ev.ifp rfl (Ev.now _))
  | succ m ih =>
    intro x hx hm hd
    refine Ev.succ ?_
    simp only [digits_Text.l2]
    rw [hx, show (((m + 1 : Nat) : Int) - 1) = (m : Int) by omega, w64 (x := (m : Int)) (by omega) (by omega), rd_nat, Int.toNat_natCast]
    refine Ev.ifp (by omega) (Ev.ifp (by omega) (Ev.ifp (by omega) ?_))
    by_cases c : x.getD m 0 = 48
    · have := strip_last hd (by omega) (by rw [hx]; exact c)
      rw [hx] at this
      have h2 := ih (x.take m) (by rw [List.length_take]; omega) (by omega) (Dg_take hd _)
      rw [show m + 1 - 1 = m by omega] at this
      rw [this] at h2
      exact Ev.ifp c (Ev.ifp (by omega) h2)
    · have e := dl_lv hd (.inr (by rw [hx]; exact c))
      have hn : lv x ≠ 0 := fun z => by rw [z, dl_zero] at e; rw [e] at hx; simp at hx
      refine Ev.ifn c (Ev.ifn (by omega) (Ev.bind (Rev_to (by omega)) ?_))
      unfold T tx
      rw [if_neg hn, ← e]
      exact Ev.now _
theorem tab9 : rd tab0_ 9 = 1000000000 := rfl
theorem Text_to {m n : Nat} {a : List Int} (sa : S m a) (hm : m ≤ 3000) (h : V a = n) : Ev (fun k => digits_Text.f k a) (T n) := by
  have hn : n < Bp m := h ▸ sa.v
  have inner : ∀ (d i r : Nat) (x q : List Int) (N : Nat), 9 = i + d → Dg x → r < 1000000000 → x.length + d ≤ 800000 → (∀ y : List Int, Dg y → y.length = x.length + d → lv y = lv x + 10 ^ x.length * (r % 10 ^ d) → Ev (fun k => digits_Text.l0 k q y) (T N)) →
      Ev (fun k => digits_Text.l1 k x q (r : Int) (i : Int)) (T N) := by
    intro d
    induction d with
    | zero =>
      intro i r x q N hi hd hr hl hy
      refine Ev.succ ?_
      simp only [digits_Text.l1]
      exact Ev.ifn (by omega) (hy x hd (by omega) (by rw [Nat.pow_zero, Nat.mod_one, Nat.mul_zero, Nat.add_zero]))
    | succ d ih =>
      intro i r x q N hi hd hr hl hy
      obtain ⟨s1, s2⟩ := digs_step x hd r
      refine Ev.succ ?_
      simp only [digits_Text.l1]
      rw [Int.tmod_eq_emod_of_nonneg (a := (r : Int)) (by omega), Int.tdiv_eq_ediv_of_nonneg (a := (r : Int)) (by omega), show (48 + (r : Int) % 10) % 256 = ((48 + r % 10 : Nat) : Int) by omega, show (r : Int) / 10 % 4294967296 = ((r / 10 : Nat) : Int) by omega, w64_succ (by omega)]
      refine Ev.ifp (by omega) (Ev.ifp (by omega) ?_)
      refine ih (i + 1) (r / 10) _ q N (by omega) s1 (by omega) (by rw [List.length_append, List.length_singleton]; omega) (fun y hyd hyl hyv => hy y hyd (by rw [hyl, List.length_append, List.length_singleton]; omega) ?_)
      rw [hyv, s2, List.length_append, List.length_singleton, Nat.pow_succ, Nat.pow_succ, Nat.mul_comm (10 ^ d) 10, Nat.mod_mul, Nat.mul_add, Nat.mul_assoc]
      omega
  have outer : ∀ (B q : Nat) (x : List Int) (N : Nat), q < 1000000000 ^ B → q < Bp m → Dg x → x.length + 9 * B ≤ 800000 → lv x + 10 ^ x.length * q = N → Ev (fun k => digits_Text.l0 k (L q) x) (T N) := by
    intro B
    induction B with
    | zero =>
      intro q x N hq hqm hd hl hv
      have q0 : q = 0 := by rw [Nat.pow_zero] at hq; omega
      subst q0
      rw [Nat.mul_zero, Nat.add_zero] at hv
      rw [L_zero, ← hv]
      refine Ev.succ ?_
      simp only [digits_Text.l0]
      exact Ev.ifn (by decide) (Text_strip x.length x rfl (by omega) hd)
    | succ B ih =>
      intro q x N hq hqm hd hl hv
      by_cases q0 : q = 0
      · subst q0
        rw [Nat.mul_zero, Nat.add_zero] at hv
        rw [L_zero, ← hv]
        refine Ev.succ ?_
        simp only [digits_Text.l0]
        exact Ev.ifn (by decide) (Text_strip x.length x rfl (by omega) hd)
      · have hlq : (L q).length ≠ 0 := fun e => q0 (L_len_zero.1 e)
        refine Ev.succ ?_
        simp only [digits_Text.l0]
        rw [tab9]
        refine Ev.ifp (by omega) (Ev.ifp (by decide) (Ev.bind (QSmall_to (S_L hqm) (by omega) (by omega) (by omega) (n := q / 1000000000) (x := q % 1000000000) (by rw [V_L]; rfl) (by rw [V_L]; rfl)) ?_))
        refine inner 9 0 (q % 1000000000) x (L (q / 1000000000)) N rfl hd (Nat.mod_lt _ (by omega)) (by omega) (fun y hyd hyl hyv => ?_)
        refine ih (q / 1000000000) y N (by rw [Nat.pow_succ] at hq; exact Nat.div_lt_of_lt_mul (by rw [Nat.mul_comm]; exact hq)) (lt_le hqm (Nat.div_le_self _ _)) hyd (by omega) ?_
        rw [hyv, hyl, Nat.pow_add, show q % 1000000000 % 10 ^ 9 = q % 1000000000 from Nat.mod_eq_of_lt (Nat.mod_lt _ (by omega)), show (10 : Nat) ^ 9 = 1000000000 from rfl, ← hv, Nat.mul_assoc, Nat.add_assoc, ← Nat.mul_add]
        congr 2
        omega
  unfold digits_Text.f
  refine Ev.bind (Trim_to sa (by omega) h) ?_
  refine outer (2 * m) n [] n ?_ hn Dg_nil (by simp; omega) (by simp [lv])
  refine Nat.lt_of_lt_of_le hn ?_
  unfold Bp
  rw [Nat.pow_mul]
  exact Nat.pow_le_pow_left (by decide) _
end Go.Proofs.YtijjnjdfdoaafaaDoor.Lib

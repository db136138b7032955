/- What the document's answer for layer 5 (reference 05) comes to: text, number of a text, power of ten, digit by digit. -/
import Derived.Test.YtijjnjdfdoaafaaDoorLibH2
import Derived.Test.YtijjnjdfdoaafaaDoorLibE
import Derived.Test.YtijjnjdfdoaafaaDoorPxsteelyardref05
set_option linter.unusedVariables false
set_option linter.unusedSimpArgs false
namespace Go.Proofs.YtijjnjdfdoaafaaDoor.Lib
open Go.RowKit Go.Proofs.YtijjnjdfdoaafaaDoorW.PrintWords Go.Proofs.YtijjnjdfdoaafaaDoorW.PrintMore Go.Proofs.YtijjnjdfdoaafaaDoor.P
theorem rTen_to {n : Nat} (h : n ≤ 2000) : Ev (fun k => steelyardref05_Ten.f k (n : Int)) (L (10 ^ n)) := by
  have key : ∀ d i : Nat, n = i + d → Ev (fun k => steelyardref05_Ten.l0 k (n : Int) (L (10 ^ i)) (i : Int)) (L (10 ^ n)) := by
    intro d
    induction d with
    | zero =>
      intro i hi
      obtain rfl : n = i := by omega
      refine Ev.succ ?_
      simp only [steelyardref05_Ten.l0]
      exact Ev.ifn (by omega) (Ev.now _)
    | succ d ih =>
      intro i hi
      refine Ev.succ ?_
      simp only [steelyardref05_Ten.l0]
      rw [w64_succ (by omega)]
      exact Ev.ifp (by omega) (Ev.bind (rSmall_to (S_L (ten_Bp (m := 250) (j := i) (by omega))) (by omega) (by omega) (by omega) (n := 10 ^ (i + 1)) (by rw [V_L, Nat.pow_succ]; rfl)) (ih (i + 1) (by omega)))
  unfold steelyardref05_Ten.f
  have := key n 0 (by omega)
  rw [Nat.pow_zero, L_one (by omega) (by omega)] at this
  exact this
theorem rten_loop {a : List Int} (ha : W a) (hl : a.length ≤ 1000000) : ∀ j (out : List Int) (r : Nat), j ≤ a.length → out.length = a.length → W out → V (out.drop j) = V (a.drop j) / 10 → r = V (a.drop j) % 10 →
    Ev (fun k => steelyardref05_ten.l0 k a out (r : Int) ((j : Int) - 1)) (L (V a / 10), ((V a % 10 : Nat) : Int)) := by
  intro j
  induction j with
  | zero =>
    intro out r hj ho hw hV hr
    rw [List.drop_zero, List.drop_zero] at hV
    rw [List.drop_zero] at hr
    refine Ev.succ ?_
    simp only [steelyardref05_ten.l0]
    rw [show (r : Int) % 256 = (r : Int) by omega, ← hr]
    exact Ev.ifn (by omega) (Ev.bind (rTrim_to (m := 1000000) ⟨hw, by omega⟩ (by omega) hV) (Ev.now _))
  | succ j ih =>
    intro out r hj ho hw hV hr
    refine Ev.succ ?_
    simp only [steelyardref05_ten.l0]
    have g1 := W_get ha j
    obtain ⟨x, hx⟩ := Int.eq_ofNat_of_zero_le g1.1
    have hr10 : r < 10 := by omega
    have ds := div_step (V (a.drop (j + 1))) x 10 (by omega)
    rw [← hr] at ds
    rw [show (((j + 1 : Nat) : Int) - 1) = (j : Int) by omega, rd_nat, hx, wu64 (x := (r : Int) * 4294967296) (by omega) (by omega), wu64 (x := (x : Int)) (by omega) (by omega), or_high r x (by omega) (by omega), Int.tdiv_eq_ediv_of_nonneg (by omega), Int.tmod_eq_emod_of_nonneg (by omega), Int.toNat_natCast, w64 (x := (j : Int) - 1) (by omega) (by omega)]
    have e1 : ((r * 4294967296 + x : Nat) : Int) / 10 = (((r * 4294967296 + x) / 10 : Nat) : Int) := by omega
    have e2 : ((r * 4294967296 + x : Nat) : Int) % 10 = (((r * 4294967296 + x) % 10 : Nat) : Int) := by omega
    rw [e1, e2, wu64 (x := (((r * 4294967296 + x) / 10 : Nat) : Int)) (by omega) (by omega), show (((r * 4294967296 + x) / 10 : Nat) : Int) % 4294967296 = (((r * 4294967296 + x) / 10 : Nat) : Int) by omega]
    refine Ev.ifp (by omega) (Ev.ifp (by omega) (Ev.ifp (by omega) (Ev.ifp (by omega) ?_)))
    refine ih _ _ (by omega) (by rw [List.length_set]; exact ho) (W_set hw j (by omega) (by omega)) ?_ ?_
    · rw [V_drop_set _ _ _ (by omega), hV, V_drop_cons a (i := j) (by omega), hx, Int.toNat_natCast, Int.toNat_natCast, ds.1]
    · rw [V_drop_cons a (i := j) (by omega), hx, Int.toNat_natCast, ds.2]
theorem rten_to {m n : Nat} {a : List Int} (sa : S m a) (hm : m ≤ 1000000) (h : V a = n) : Ev (fun k => steelyardref05_ten.f k a) (L (n / 10), ((n % 10 : Nat) : Int)) := by
  have hl := sa.2
  unfold steelyardref05_ten.f
  simp only [Option.bind_some, List.nil_append, List.length_nil]
  rw [w64 (by omega) (by omega), ← h]
  exact Ev.ifp (by omega) (rten_loop sa.1 (by omega) a.length a 0 (by omega) rfl sa.1 (by rw [List.drop_length, V_nil]) (by rw [List.drop_length, V_nil]))
theorem rText_rev {l : List Int} (hl : l.length ≤ 1000000) : Ev (fun k => steelyardref05_Text.l1 k l 0 ((l.length : Int) - 1)) (strOfNums l.reverse) := by
  have key : ∀ (d i : Nat) (j : Int) (x : List Int), j ≤ (i : Int) + d → x.length = l.length → (i : Int) + j + 1 = l.length →
      (∀ t, t < l.length → x.getD t 0 = if t < i ∨ j < (t : Int) then l.getD (l.length - 1 - t) 0 else l.getD t 0) → Ev (fun k => steelyardref05_Text.l1 k x (i : Int) j) (strOfNums l.reverse) := by
    intro d
    induction d using Nat.strongRecOn with
    | ind d ih =>
      intro i j x hd hxl hij hx
      by_cases hlt : (i : Int) < j
      · obtain ⟨m, rfl⟩ := Int.eq_ofNat_of_zero_le (show 0 ≤ j by omega)
        refine Ev.succ ?_
        simp only [steelyardref05_Text.l1, rd_nat, Int.toNat_natCast]
        rw [w64_succ (by omega), w64 (x := (m : Int) - 1) (by omega) (by omega)]
        refine Ev.ifp hlt (Ev.ifp (by omega) (Ev.ifp (by omega) (Ev.ifp (by omega) (Ev.ifp (by omega) ?_))))
        have hs := swap_step hxl (show i < m by omega) (by omega) (fun t ht => by
          have := hx t ht
          rw [this]
          by_cases c : t < i ∨ m < t
          · rw [if_pos c, if_pos (by omega)]
          · rw [if_neg c, if_neg (by omega)])
        refine ih (d - 2) (by omega) (i + 1) ((m : Int) - 1) _ (by omega) (by rw [List.length_set, List.length_set]; exact hxl) (by omega) (fun t ht => ?_)
        rw [hs t ht]
        by_cases c : t < i + 1 ∨ m - 1 < t
        · rw [if_pos c, if_pos (by omega)]
        · rw [if_neg c, if_neg (by omega)]
      · refine Ev.succ ?_
        simp only [steelyardref05_Text.l1]
        rw [swap_end hxl hlt hij hx]
        exact Ev.ifn hlt (Ev.now _)
  exact key l.length 0 ((l.length : Int) - 1) l (by omega) rfl (by omega) (fun t ht => by rw [if_neg (by omega)])
theorem rText_to {m n : Nat} {a : List Int} (sa : S m a) (hm : m ≤ 3000) (h : V a = n) : Ev (fun k => steelyardref05_Text.f k a) (T n) := by
  have hn : n < Bp m := h ▸ sa.v
  have hlen : (dl n).length ≤ 10 * m := dl_len_le (Nat.lt_of_lt_of_le hn (by unfold Bp; rw [Nat.pow_mul]; exact Nat.pow_le_pow_left (by decide) _))
  have key : ∀ q x, q < Bp m → x ++ dl q = dl n → Ev (fun k => steelyardref05_Text.l0 k x (L q)) (T n) := by
    intro q
    induction q using Nat.strongRecOn with
    | ind q ih =>
      intro x hq hx
      have hxl := congrArg List.length hx
      rw [List.length_append] at hxl
      refine Ev.succ ?_
      simp only [steelyardref05_Text.l0]
      by_cases q0 : q = 0
      · subst q0
        rw [dl_zero, List.append_nil] at hx
        rw [L_zero]
        refine Ev.ifn (by decide) ?_
        unfold T tx
        by_cases n0 : n = 0
        · rw [if_pos n0]
          rw [n0, dl_zero] at hx
          rw [hx]
          exact Ev.ifp rfl (Ev.now _)
        · rw [if_neg n0, ← hx]
          have hne : x.length ≠ 0 := by rw [hx, dl_pos n0]; simp
          rw [w64 (x := (x.length : Int) - 1) (by omega) (by omega)]
          exact Ev.ifn (by omega) (rText_rev (by omega))
      · have hl : (L q).length ≠ 0 := fun e => q0 (L_len_zero.1 e)
        refine Ev.ifp (by omega) (Ev.bind (rten_to (S_L hq) (by omega) (V_L _)) (Ev.ifp (by omega) ?_))
        rw [show (48 + ((q % 10 : Nat) : Int)) % 256 = ((48 + q % 10 : Nat) : Int) by omega]
        refine ih (q / 10) (Nat.div_lt_self (by omega) (by omega)) _ (lt_le hq (Nat.div_le_self _ _)) ?_
        rw [List.append_assoc, List.singleton_append, ← dl_pos q0, hx]
  unfold steelyardref05_Text.f
  exact Ev.bind (rTrim_to sa (by omega) h) (key n [] hn rfl)
theorem rParse_loop {s : ByteArray} (hl : s.size ≤ 2000) {R : List Int × Bool} (hy : Dg (ns s) → R = (L (pv (ns s)), true)) (hn : ¬ Dg (ns s) → R = ([], false)) :
    ∀ d i, s.size = i + d → Dg ((ns s).take i) → Ev (fun k => steelyardref05_Parse.l0 k s (L (pv ((ns s).take i))) (i : Int)) R := by
  intro d
  induction d with
  | zero =>
    intro i hi hd
    have e : (ns s).take i = ns s := List.take_of_length_le (by rw [ns_len]; omega)
    rw [e] at hd ⊢
    have hv := pv_lt hd
    rw [ns_len] at hv
    refine Ev.succ ?_
    simp only [steelyardref05_Parse.l0]
    rw [hy hd]
    exact Ev.ifn (by omega) (Ev.bind (rTrim_to (S_L (Nat.lt_trans hv (ten_Bp (m := 250) (by omega)))) (by omega) (V_L _)) (Ev.now _))
  | succ d ih =>
    intro i hi hd
    have hlt : i < (ns s).length := by rw [ns_len]; omega
    have hv := pv_lt hd
    rw [List.length_take, Nat.min_eq_left (by omega)] at hv
    have lv_ : pv ((ns s).take i) < Bp 251 := Nat.lt_trans hv (ten_Bp (m := 250) (by omega))
    have hsn := take_snoc (ns s) hlt
    have hps := pv_snoc ((ns s).take i) ((ns s).getD i 0)
    rw [← hsn] at hps
    have jt : ¬ (48 ≤ (ns s).getD i 0 ∧ (ns s).getD i 0 ≤ 57) → Ev (fun k => steelyardref05_Parse.j2 k s (L (pv ((ns s).take i))) (i : Int) true) R := fun h => by
      rw [hn fun hd2 => h (Dg_get hd2 hlt)]
      exact Ev.succ (by simp only [steelyardref05_Parse.j2]; exact Ev.ifp trivial (Ev.now _))
    refine Ev.succ ?_
    simp only [steelyardref05_Parse.l0, bt_ns]
    refine Ev.ifp (by omega) (Ev.ifp (by omega) ?_)
    by_cases h1 : (ns s).getD i 0 < 48
    · exact Ev.ifp h1 (jt (by omega))
    · refine Ev.ifn h1 ?_
      by_cases h2 : (ns s).getD i 0 > 57
      · rw [decide_eq_true h2]; exact jt (by omega)
      · rw [decide_eq_false h2]
        refine Ev.succ ?_
        simp only [steelyardref05_Parse.j2, bt_ns]
        have := ih (i + 1) (by omega) (by rw [hsn, Dg_app]; exact ⟨hd, by rw [Dg_cons]; exact ⟨by omega, Dg_nil⟩⟩)
        rw [hps] at this
        rw [w64_succ (by omega), show ((ns s).getD i 0 - 48) % 256 = (ns s).getD i 0 - 48 by omega]
        have l10 : pv ((ns s).take i) * 10 < Bp 252 := lt_mul lv_ (show 10 < Bp 1 by decide) (by omega)
        refine Ev.ifn (by decide) (Ev.bind (rSmall_to (S_L lv_) (by omega) (by omega) (by omega) (n := pv ((ns s).take i) * 10) (by rw [V_L]; rfl)) (Ev.ifp (by omega) (Ev.ifp (by omega) ?_)))
        exact Ev.bind (rAdd_to (m := 252) (S_L l10) (S_one (by omega) (by omega) (by omega)) (by omega) (n := pv ((ns s).take i) * 10 + ((ns s).getD i 0 - 48).toNat) (by rw [V_L, V_cons, V_nil]; omega)) this
theorem rParse_to {s : ByteArray} {n : Nat} (h0 : 0 < (ns s).length) (h1 : (ns s).length ≤ 2000) (hd : Dg (ns s)) (h : pv (ns s) = n) : Ev (fun k => steelyardref05_Parse.f k s) (L n, true) := by
  rw [ns_len] at h0 h1
  unfold steelyardref05_Parse.f
  rw [decide_eq_false (show ¬ (s.size : Int) > 2000 by omega)]
  refine Ev.ifn (by omega) (Ev.succ ?_)
  simp only [steelyardref05_Parse.j0]
  have := rParse_loop h1 (R := (L n, true)) (fun _ => by rw [h]) (fun h2 => absurd hd h2) s.size 0 (by omega) (by rw [List.take_zero]; exact Dg_nil)
  rw [List.take_zero, pv_nil, L_zero] at this
  exact Ev.ifn (by decide) this
theorem rParse_no {s : ByteArray} (h : (ns s).length = 0 ∨ 2000 < (ns s).length ∨ ¬ Dg (ns s)) : Ev (fun k => steelyardref05_Parse.f k s) ([], false) := by
  have jt : Ev (fun k => steelyardref05_Parse.j0 k s true) ([], false) := Ev.succ (by simp only [steelyardref05_Parse.j0]; exact Ev.ifp trivial (Ev.now _))
  rw [ns_len] at h
  unfold steelyardref05_Parse.f
  by_cases h0 : (s.size : Int) < 1
  · exact Ev.ifp h0 jt
  · refine Ev.ifn h0 ?_
    by_cases h1 : (s.size : Int) > 2000
    · rw [decide_eq_true h1]; exact jt
    · rw [decide_eq_false h1]
      have hd : ¬ Dg (ns s) := by
        rcases h with h | h | h
        · omega
        · omega
        · exact h
      refine Ev.succ ?_
      simp only [steelyardref05_Parse.j0]
      have := rParse_loop (by omega) (R := ([], false)) (fun h2 => absurd h2 hd) (fun _ => rfl) s.size 0 (by omega) (by rw [List.take_zero]; exact Dg_nil)
      rw [List.take_zero, pv_nil, L_zero] at this
      exact Ev.ifn (by decide) this
end Go.Proofs.YtijjnjdfdoaafaaDoor.Lib

/- The printed functions of package digits, second part: a text's number, powers of ten. -/
import Derived.Test.YtijjnjdfdoaafaaDoorLibH
set_option linter.unusedVariables false
set_option linter.unusedSimpArgs false
namespace Go.Proofs.YtijjnjdfdoaafaaDoor.Lib
open Go.RowKit Go.Proofs.YtijjnjdfdoaafaaDoorW.PrintWords Go.Proofs.YtijjnjdfdoaafaaDoorW.PrintMore Go.Proofs.YtijjnjdfdoaafaaDoor.P
theorem take_snoc (b : List Int) {i : Nat} (h : i < b.length) : b.take (i + 1) = b.take i ++ [b.getD i 0] := by
  rw [List.take_succ_eq_append_getElem h, List.getD_eq_getElem?_getD, List.getElem?_eq_getElem h, Option.getD_some]
theorem pv_snoc (b : List Int) (x : Int) : pv (b ++ [x]) = pv b * 10 + (x - 48).toNat := by rw [pv_app, pv_one, List.length_singleton, Nat.pow_one]
theorem Dg_get {b : List Int} (h : Dg b) {i : Nat} (hi : i < b.length) : 48 ≤ b.getD i 0 ∧ b.getD i 0 ≤ 57 := by
  rw [List.getD_eq_getElem?_getD, List.getElem?_eq_getElem hi, Option.getD_some]
  exact h _ (List.getElem_mem hi)
theorem some_spec {s : ByteArray} (hl : s.size ≤ 9) {R : Int × Bool} (hy : Dg (ns s) → R = (((pv (ns s) : Nat) : Int), true)) (hn : ¬ Dg (ns s) → R = (0, false)) : Ev (fun k => digits_some.f k s) R := by
  have key : ∀ d i, s.size = i + d → Dg ((ns s).take i) → Ev (fun k => digits_some.l0 k s ((pv ((ns s).take i) : Nat) : Int) (s.size : Int) (i : Int)) R := by
    intro d
    induction d with
    | zero =>
      intro i hi hd
      have e : (ns s).take i = ns s := List.take_of_length_le (by rw [ns_len]; omega)
      rw [e] at hd ⊢
      refine Ev.succ ?_
      simp only [digits_some.l0]
      rw [hy hd]
      exact Ev.ifn (by omega) (Ev.now _)
    | succ d ih =>
      intro i hi hd
      have hlt : i < (ns s).length := by rw [ns_len]; omega
      have hb := ns_B8 s _ (show (ns s).getD i 0 ∈ ns s by rw [List.getD_eq_getElem?_getD, List.getElem?_eq_getElem hlt, Option.getD_some]; exact List.getElem_mem hlt)
      have hv := pv_lt hd
      rw [List.length_take, Nat.min_eq_left (by omega)] at hv
      have hv9 : pv ((ns s).take i) < 100000000 := Nat.lt_of_lt_of_le hv (Nat.pow_le_pow_right (n := 10) (by omega) (show i ≤ 8 by omega))
      have hsn := take_snoc (ns s) hlt
      have hps := pv_snoc ((ns s).take i) ((ns s).getD i 0)
      rw [← hsn] at hps
      have nope : ¬ (48 ≤ (ns s).getD i 0 ∧ (ns s).getD i 0 ≤ 57) → R = (0, false) := fun h => hn fun hd2 => h (Dg_get hd2 hlt)
      refine Ev.succ ?_
      simp only [digits_some.l0, bt_ns]
      refine Ev.ifp (by omega) (Ev.ifp (by omega) (Ev.ifp (by omega) ?_))
      by_cases h1 : (ns s).getD i 0 < 48
      · rw [nope (by omega)]
        exact Ev.ifp h1 (Ev.now _)
      · by_cases h2 : (ns s).getD i 0 > 57
        · rw [nope (by omega)]
          exact Ev.ifn h1 (Ev.ifp h2 (Ev.now _))
        · have := ih (i + 1) (by omega) (by rw [hsn, Dg_app]; exact ⟨hd, by rw [Dg_cons]; exact ⟨by omega, Dg_nil⟩⟩)
          rw [hps] at this
          rw [w64_succ (by omega), show (10 * ((pv ((ns s).take i) : Nat) : Int) % 4294967296 + ((ns s).getD i 0 - 48) % 256) % 4294967296 = ((pv ((ns s).take i) * 10 + ((ns s).getD i 0 - 48).toNat : Nat) : Int) by omega]
          exact Ev.ifn h1 (Ev.ifn h2 this)
  unfold digits_some.f
  exact key s.size 0 (by omega) (by rw [List.take_zero]; exact Dg_nil)
theorem tab_ten : ∀ n : Fin 10, rd tab0_ ((n.val : Nat) : Int) = ((10 ^ n.val : Nat) : Int) := by decide
theorem tab_at {n : Nat} (h : n ≤ 9) : rd tab0_ (n : Int) = ((10 ^ n : Nat) : Int) := tab_ten ⟨n, by omega⟩
theorem ten_Bp {j m : Nat} (h : j ≤ 8 * m) : 10 ^ j < Bp (m + 1) := by
  refine Nat.lt_of_le_of_lt (Nat.pow_le_pow_left (show 10 ≤ 2 ^ 4 by decide) j) ?_
  rw [← Nat.pow_mul]
  exact two_lt (by omega)
theorem ten9 {n : Nat} (h : n ≤ 9) : 10 ^ n < 4294967296 := Nat.lt_of_le_of_lt (Nat.pow_le_pow_right (by omega) h) (by decide)
theorem ns_front (s : ByteArray) (n : Nat) : ns (s.extract 0 n) = (ns s).take n := by rw [ns_extract, List.drop_zero, Nat.sub_zero]
theorem ns_rest (s : ByteArray) (n : Nat) : ns (s.extract n s.size) = (ns s).drop n := by
  rw [ns_extract, List.take_of_length_le]
  rw [List.length_drop, ns_len]; omega
theorem Parse_loop : ∀ len (s : ByteArray) (A j : Nat) (R : List Int × Bool), s.size = len → A < 10 ^ j → j + len ≤ 2000 → (Dg (ns s) → R = (L (A * 10 ^ len + pv (ns s)), true)) → (¬ Dg (ns s) → R = ([], false)) → Ev (fun k => digits_Parse.l0 k s (L A)) R := by
  intro len
  induction len using Nat.strongRecOn with
  | ind len ih =>
    intro s A j R hs hA hj hy hn
    refine Ev.succ ?_
    simp only [digits_Parse.l0]
    by_cases h0 : len = 0
    · have e : ns s = [] := List.length_eq_zero_iff.1 (by rw [ns_len]; omega)
      have := hy (by rw [e]; exact Dg_nil)
      rw [h0, e, Nat.pow_zero, Nat.mul_one, pv_nil, Nat.add_zero] at this
      rw [this]
      exact Ev.ifp (ns_nil_iff.2 e) (Ev.now _)
    · have hne : ¬ s.toList = ([] : List UInt8) := fun e => h0 (by rw [← hs, ← ns_len, ns_nil_iff.1 e]; rfl)
      obtain ⟨n, hnn⟩ : ∃ n, min 9 s.size = n := ⟨_, rfl⟩
      have e9 : mn 9 (s.size : Int) = (n : Int) := by rw [← hnn]; exact mn_nat 9 s.size
      have hn9 : n ≤ 9 := by omega
      have h10 := ten9 hn9
      rw [e9, Int.toNat_natCast, tab_at hn9]
      have hsz : (s.extract 0 n).size = n := by rw [ByteArray.size_extract]; omega
      have split : Dg (ns s) ↔ Dg ((ns s).take n) ∧ Dg ((ns s).drop n) := by rw [← Dg_app, List.take_append_drop]
      refine Ev.ifn hne (Ev.ifp (by omega) (Ev.ifp (by omega) ?_))
      by_cases hd : Dg ((ns s).take n)
      · refine Ev.bind (some_spec (R := (((pv ((ns s).take n) : Nat) : Int), true)) (by omega) (fun _ => by rw [ns_front]) (fun h => absurd (by rw [ns_front]; exact hd) h)) (Ev.ifp rfl ?_)
        have hpl := pv_lt hd
        rw [List.length_take, ns_len, Nat.min_eq_left (by omega)] at hpl
        have lA : A < Bp 251 := Nat.lt_trans hA (ten_Bp (m := 250) (by omega))
        have hA2 : A * 10 ^ n + pv ((ns s).take n) < 10 ^ (j + n) := by
          rw [Nat.pow_add]
          have := Nat.mul_le_mul_right (10 ^ n) (show A + 1 ≤ 10 ^ j from hA)
          rw [Nat.add_mul] at this
          omega
        have lA2 : A * 10 ^ n + pv ((ns s).take n) < Bp 251 := Nat.lt_trans hA2 (ten_Bp (m := 250) (by omega))
        rw [wu64 (x := ((pv ((ns s).take n) : Nat) : Int)) (by omega) (by omega)]
        refine Ev.ifp (show (n : Int) < ((10 : Nat) : Int) by omega) (Ev.bind (Small_to (S_L lA) (by omega) (by omega) (by omega) (n := A * 10 ^ n) (by rw [V_L, Int.toNat_natCast])) (Ev.bind (Of_to (by omega) (by omega) (n := pv ((ns s).take n)) (by rw [Int.toNat_natCast])) ?_))
        refine Ev.bind (Add_to (m := 251) (S_L (Nat.lt_of_le_of_lt (Nat.le_add_right _ _) lA2)) (S_L (Nat.lt_of_le_of_lt (Nat.le_add_left _ _) lA2)) (by omega) (n := A * 10 ^ n + pv ((ns s).take n)) (by rw [V_L, V_L])) ?_
        have hsz2 : (s.extract n s.size).size = len - n := by rw [ByteArray.size_extract]; omega
        refine ih (len - n) (by omega) (s.extract n s.size) _ (j + n) R hsz2 hA2 (by omega) (fun h => ?_) (fun h => ?_)
        · rw [ns_rest] at h
          rw [hy (split.2 ⟨hd, h⟩), ns_rest]
          have e := pv_app ((ns s).take n) ((ns s).drop n)
          rw [List.take_append_drop, List.length_drop, ns_len, hs] at e
          rw [e, Nat.add_mul, Nat.mul_assoc, ← Nat.pow_add, show n + (len - n) = len by omega, Nat.add_assoc]
        · rw [ns_rest] at h
          exact hn fun h2 => h (split.1 h2).2
      · rw [hn fun h => hd (split.1 h).1]
        exact Ev.bind (some_spec (R := (0, false)) (by omega) (fun h => absurd (by rw [ns_front] at h; exact h) hd) (fun _ => rfl)) (Ev.ifn (by decide) (Ev.now _))
theorem Parse_to {s : ByteArray} {n : Nat} (h0 : 0 < (ns s).length) (h1 : (ns s).length ≤ 2000) (hd : Dg (ns s)) (h : pv (ns s) = n) : Ev (fun k => digits_Parse.f k s) (L n, true) := by
  rw [ns_len] at h0 h1
  unfold digits_Parse.f
  refine Ev.ifn (fun e => by have := ns_nil_iff.1 e; rw [ns_size, this] at h0; simp at h0) ?_
  rw [decide_eq_false (show ¬ (s.size : Int) > 2000 by omega)]
  refine Ev.succ ?_
  simp only [digits_Parse.j0]
  have := Parse_loop s.size s 0 0 (L n, true) rfl (by decide) (by omega) (fun _ => by rw [Nat.zero_mul, Nat.zero_add, h]) (fun h2 => absurd hd h2)
  rw [L_zero] at this
  exact Ev.ifn (by decide) this
theorem Parse_no {s : ByteArray} (h : (ns s).length = 0 ∨ 2000 < (ns s).length ∨ ¬ Dg (ns s)) : Ev (fun k => digits_Parse.f k s) ([], false) := by
  have jt : Ev (fun k => digits_Parse.j0 k s true) ([], false) := Ev.succ (by simp only [digits_Parse.j0]; exact Ev.ifp trivial (Ev.now _))
  rw [ns_len] at h
  unfold digits_Parse.f
  by_cases h0 : s.toList = ([] : List UInt8)
  · exact Ev.ifp h0 jt
  · refine Ev.ifn h0 ?_
    by_cases h1 : (s.size : Int) > 2000
    · rw [decide_eq_true h1]; exact jt
    · rw [decide_eq_false h1]
      have h3 : s.size ≠ 0 := fun e => h0 (ns_nil_iff.2 (List.length_eq_zero_iff.1 (by rw [ns_len]; exact e)))
      have hd : ¬ Dg (ns s) := by
        rcases h with h | h | h
        · exact absurd h h3
        · omega
        · exact h
      refine Ev.succ ?_
      simp only [digits_Parse.j0]
      have := Parse_loop s.size s 0 0 ([], false) rfl (by decide) (by omega) (fun h2 => absurd h2 hd) (fun _ => rfl)
      rw [L_zero] at this
      exact Ev.ifn (by decide) this
theorem Ten_loop : ∀ r j : Nat, j + r ≤ 2000 → Ev (fun k => digits_Ten.l0 k (r : Int) (L (10 ^ j))) (L (10 ^ (j + r)), true) := by
  intro r
  induction r using Nat.strongRecOn with
  | ind r ih =>
    intro j hj
    refine Ev.succ ?_
    simp only [digits_Ten.l0]
    by_cases h0 : r = 0
    · subst h0
      exact Ev.ifn (by omega) (Ev.now _)
    · obtain ⟨n, hnn⟩ : ∃ n, min r 9 = n := ⟨_, rfl⟩
      have e9 : mn (r : Int) 9 = (n : Int) := by rw [← hnn]; exact mn_nat r 9
      have hn9 : n ≤ 9 := by omega
      have h10 := ten9 hn9
      rw [e9, tab_at hn9, w64 (x := (r : Int) - 9) (by omega) (by omega)]
      refine Ev.ifp (by omega) (Ev.ifp (by omega) (Ev.ifp (show (n : Int) < ((10 : Nat) : Int) by omega) (Ev.bind (Small_to (S_L (ten_Bp (m := 250) (j := j) (by omega))) (by omega) (Int.natCast_nonneg _) (Int.ofNat_lt.2 h10) (n := 10 ^ (j + n)) (by rw [V_L, Int.toNat_natCast, Nat.pow_add])) ?_)))
      by_cases h9 : 9 ≤ r
      · have := ih (r - 9) (by omega) (j + n) (by omega)
        rw [show (((r - 9 : Nat) : Int)) = (r : Int) - 9 by omega, show j + n + (r - 9) = j + r by omega] at this
        exact this
      · rw [show j + r = j + n by omega]
        refine Ev.succ ?_
        simp only [digits_Ten.l0]
        exact Ev.ifn (by omega) (Ev.now _)
theorem Ten_to {n : Nat} (h : n ≤ 2000) : Ev (fun k => digits_Ten.f k (n : Int)) (L (10 ^ n), true) := by
  unfold digits_Ten.f
  rw [decide_eq_false (show ¬ (n : Int) > 2000 by omega)]
  refine Ev.ifn (by omega) (Ev.succ ?_)
  simp only [digits_Ten.j0]
  have := Ten_loop n 0 (by omega)
  rw [Nat.pow_zero, Nat.zero_add] at this
  exact Ev.ifn (by decide) (Ev.bind (Of_to (by omega) (by omega) (n := 1) rfl) this)
theorem Ten_no {v : Int} (h : v < 0 ∨ v > 2000) : Ev (fun k => digits_Ten.f k v) ([], false) := by
  have jt : Ev (fun k => digits_Ten.j0 k v true) ([], false) := Ev.succ (by simp only [digits_Ten.j0]; exact Ev.ifp trivial (Ev.now _))
  unfold digits_Ten.f
  by_cases h0 : v < 0
  · exact Ev.ifp h0 jt
  · rw [decide_eq_true (show v > 2000 by omega)]
    exact Ev.ifn h0 jt
end Go.Proofs.YtijjnjdfdoaafaaDoor.Lib

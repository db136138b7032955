/- The number of a number's digits is it; noughts ahead change none; a digit behind is ten times, and it. -/
import Derived.Test.YtijjnjdfdoaafaaDoorLibW5
import Derived.Test.YtijjnjdfdoaafaaDoorPxlawDigitsBack
set_option linter.unusedVariables false
set_option linter.unusedSimpArgs false
namespace Go.Proofs.YtijjnjdfdoaafaaDoor.Pure
open Go.RowKit Go.Proofs.YtijjnjdfdoaafaaDoor.P Go.Proofs.YtijjnjdfdoaafaaDoorW.PrintWords Go.Proofs.YtijjnjdfdoaafaaDoorW.PrintMore Go.Proofs.YtijjnjdfdoaafaaDoor.Lib
theorem tx_len_Bp {n m : Nat} (h : n < Bp m) (hm : 0 < m) : (tx n).length ≤ 10 * m := by
  refine tx_len_le (Nat.lt_of_lt_of_le h ?_) (by omega)
  unfold Bp
  rw [Nat.pow_mul]
  exact Nat.pow_le_pow_left (by decide) _
theorem Dg_rep (n : Nat) : Dg (List.replicate n 48) := fun x hx => by
  have := (List.mem_replicate.1 hx).2
  omega
theorem pv_rep (n : Nat) : pv (List.replicate n 48) = 0 := by
  induction n with
  | zero => rfl
  | succ n ih => rw [List.replicate_succ', pv_app, ih, pv_one]; simp
theorem dl_last : ∀ m, m ≠ 0 → (dl m).getD ((dl m).length - 1) 0 ≠ 48 := by
  intro m
  induction m using Nat.strongRecOn with
  | ind m ih =>
    intro hm
    rw [dl_pos hm]
    by_cases hq : m / 10 = 0
    · rw [hq, dl_zero]
      simp
      omega
    · have := ih (m / 10) (Nat.div_lt_self (by omega) (by omega)) hq
      have hl2 : (dl (m / 10)).length ≠ 0 := by rw [dl_pos hq]; simp
      rw [List.length_cons, show (dl (m / 10)).length + 1 - 1 = ((dl (m / 10)).length - 1) + 1 by omega, List.getD_cons_succ]
      exact this
theorem tx_first {n : Nat} (h : 1 < (tx n).length) : (tx n).getD 0 0 ≠ 48 := by
  unfold tx at h ⊢
  split at h
  · simp at h
  · rename_i h0
    rw [if_neg h0]
    rw [List.length_reverse] at h
    rw [get_rev _ (by omega), show (dl n).length - 1 - 0 = (dl n).length - 1 by omega]
    exact dl_last n h0
theorem ns_one (x : Nat) (h : x < 256) : ns (strOfNums [(x : Int)]) = [(x : Int)] := ns_strOf (fun y hy => by simp at hy; omega)
theorem tx_ten (n : Nat) : tx (10 ^ n) = 49 :: List.replicate n 48 := by
  have h := tx_of (l := 49 :: List.replicate n 48) (by rw [Dg_cons]; exact ⟨by omega, Dg_rep n⟩) (.inr ⟨by simp, by simp⟩)
  have e := pv_app [49] (List.replicate n 48)
  rw [List.singleton_append, pv_rep, pv_one, List.length_replicate] at e
  rw [show pv (49 :: List.replicate n 48) = 10 ^ n by rw [e]; simp] at h
  exact h.symm
theorem DigitsBack : steelyardlaw05_DigitsBack.Pure := by
  intro a d n _ _ ha hd hn
  apply Ev.rounds
  have bd := bounds_u8 hd
  have bn := bounds_u8 hn
  unfold steelyardlaw05_DigitsBack.f
  by_cases h1 : (a.length : Int) > 60
  · exact Ev.ifp h1 (Ev.bind wakes5 (Ev.now _))
  have sa : S 60 a := S_of (wf_u32 ha) h1
  obtain ⟨A, hA⟩ : ∃ A, V a = A := ⟨_, rfl⟩
  have lA : A < Bp 60 := hA ▸ sa.v
  have lt_ := tx_len_Bp lA (by omega)
  have pt := tx_pos A
  have zT : (T A).size = (tx A).length := by rw [ns_size, ns_T]
  obtain ⟨q, hq⟩ := Int.eq_ofNat_of_zero_le (show 0 ≤ n % 20 by omega)
  obtain ⟨e, he⟩ := Int.eq_ofNat_of_zero_le (show 0 ≤ d % 10 by omega)
  have q20 : q < 20 := by omega
  have e10 : e < 10 := by omega
  have j2 : ∀ z : ByteArray, ns z = List.replicate q 48 → Ev (fun k => steelyardlaw05_DigitsBack.j2 k n z false) true := by
    intro z hz
    have zs : z.size = q := by rw [ns_size, hz, List.length_replicate]
    refine Ev.succ ?_
    simp only [steelyardlaw05_DigitsBack.j2]
    rw [w64 (x := n) (by omega) (by omega), Int.tmod_eq_emod_of_nonneg (a := n) (by omega), hq]
    refine Ev.ifn (by decide) (Ev.bind (Ten_to (n := q) (by omega)) (Ev.ifp rfl (Ev.bind (Text_to (S_L (ten_Bp (m := 250) (j := q) (by omega))) (by omega) (V_L _)) (Ev.ifp (by omega) (Ev.ifp ?_ (Ev.bind wakes5 (Ev.now _)))))))
    refine ns_eq_iff.2 ?_
    rw [ns_T, ns_append, hz, tx_ten]
    rfl
  have fin : ∀ z : ByteArray, ns z = List.replicate q 48 → Ev (fun k => steelyardlaw05_DigitsBack.l0 k a d n (T A) (L A) z (q : Int)) true := by
    intro z hz
    have zs : z.size = q := by rw [ns_size, hz, List.length_replicate]
    have c48 : (48 + Int.tmod d 10) % 256 = ((48 + e : Nat) : Int) := by rw [Int.tmod_eq_emod_of_nonneg (a := d) (by omega), he]; omega
    have n1 : ns (z ++ T A) = List.replicate q 48 ++ tx A := by rw [ns_append, hz, ns_T]
    have n2 : ns (T A ++ strOfNums [((48 + e : Nat) : Int)]) = tx A ++ [((48 + e : Nat) : Int)] := by rw [ns_append, ns_T, ns_one _ (by omega)]
    have z2 : (strOfNums [((48 + e : Nat) : Int)]).size = 1 := by rw [ns_size, ns_one _ (by omega)]; rfl
    have l10 : A * 10 < Bp 61 := lt_mul lA (show 10 < Bp 1 by decide) (by omega)
    have le_ : e < Bp 1 := by rw [show Bp 1 = 4294967296 from rfl]; omega
    have ls : A * 10 + e < Bp 62 := lt_add l10 (lt_up le_ (by omega)) (by omega)
    refine Ev.succ ?_
    simp only [steelyardlaw05_DigitsBack.l0]
    rw [w64 (x := n) (by omega) (by omega), Int.tmod_eq_emod_of_nonneg (a := n) (by omega), hq, c48, zs, zT]
    simp only [Option.bind_some]
    refine Ev.ifn (by omega) (Ev.ifp (by omega) (Ev.bind (Parse_to (n := A) (by rw [n1, List.length_append]; omega) (by rw [n1, List.length_append, List.length_replicate]; omega) (by rw [n1]; exact Dg_app.2 ⟨Dg_rep _, Dg_tx _⟩) (by rw [n1, pv_app, pv_rep, pv_tx, Nat.zero_mul, Nat.zero_add])) ?_))
    rw [z2]
    refine Ev.ifp (by omega) (Ev.bind (Parse_to (n := A * 10 + e) (by rw [n2, List.length_append]; omega) (by rw [n2, List.length_append, List.length_singleton]; omega) (by rw [n2]; exact Dg_app.2 ⟨Dg_tx _, by rw [Dg_cons]; exact ⟨by omega, Dg_nil⟩⟩) (by rw [n2, pv_snoc, pv_tx]; omega)) (Ev.ifp rfl (Ev.ifp rfl ?_)))
    refine Ev.bind (keep_to (S_L lA) (by omega) rfl) (Ev.ifp rfl (Ev.bind (Small_to sa (by omega) (by omega) (by omega) (n := A * 10) (by rw [hA]; rfl)) ?_))
    rw [Int.tmod_eq_emod_of_nonneg (a := d) (by omega), he, wu64 (x := (e : Int)) (by omega) (by omega)]
    refine Ev.bind (Of_to (by omega) (by omega) (n := e) (by omega)) (Ev.bind (Add_to (m := 61) (S_L l10) (S_L (lt_up le_ (by omega))) (by omega) (n := A * 10 + e) (by rw [V_L, V_L])) (Ev.bind (keep_to (S_L ls) (by omega) rfl) ?_))
    exact j2 z hz
  have loop : ∀ r i (z : ByteArray), q = i + r → ns z = List.replicate i 48 → Ev (fun k => steelyardlaw05_DigitsBack.l0 k a d n (T A) (L A) z (i : Int)) true := by
    intro r
    induction r with
    | zero =>
      intro i z hi hz
      obtain rfl : q = i := by omega
      exact fin z hz
    | succ r ih =>
      intro i z hi hz
      have zs : z.size = i := by rw [ns_size, hz, List.length_replicate]
      have hnext : ns (z ++ (⟨#[48]⟩ : ByteArray)) = List.replicate (i + 1) 48 := by rw [ns_append, hz, List.replicate_succ']; rfl
      refine Ev.succ ?_
      simp only [steelyardlaw05_DigitsBack.l0]
      rw [w64 (x := n) (by omega) (by omega), Int.tmod_eq_emod_of_nonneg (a := n) (by omega), hq, w64_succ (by omega), zs]
      exact Ev.ifp (by omega) (Ev.ifp (by omega) (ih (i + 1) _ (by omega) hnext))
  have j0 : Ev (fun k => steelyardlaw05_DigitsBack.j0 k a d n (T A) (L A) false) true := by
    refine Ev.succ ?_
    simp only [steelyardlaw05_DigitsBack.j0]
    exact Ev.ifn (by decide) (loop q 0 _ (by omega) rfl)
  refine Ev.ifn h1 (Ev.bind (Text_to sa (by omega) hA) (Ev.bind (Parse_to (n := A) (by rw [ns_T]; exact pt) (by rw [ns_T]; omega) (by rw [ns_T]; exact Dg_tx _) (by rw [ns_T]; exact pv_tx _)) (Ev.ifp rfl ?_)))
  refine Ev.bind (Trim_to sa (by omega) hA) (Ev.bind (keep_to (S_L lA) (by omega) rfl) (Ev.ifp rfl ?_))
  rw [zT]
  refine Ev.ifn (by omega) ?_
  by_cases c : (tx A).length > 1
  · refine Ev.ifp (by omega) (Ev.ifp (by omega) ?_)
    have : bt (T A) 0 = (tx A).getD 0 0 := (bt_ns (T A) 0).trans (by rw [ns_T])
    rw [this, beq_eq_false_iff_ne.2 (tx_first c)]
    exact j0
  · exact Ev.ifn (by omega) j0
end Go.Proofs.YtijjnjdfdoaafaaDoor.Pure

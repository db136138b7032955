/- Of two numbers the greater one has more digits, or, of as many, the text that stands behind. -/
import Derived.Test.YtijjnjdfdoaafaaDoorLibW5
import Derived.Test.YtijjnjdfdoaafaaDoorPxlawDigitsOrder
set_option linter.unusedVariables false
set_option linter.unusedSimpArgs false
namespace Go.Proofs.YtijjnjdfdoaafaaDoor.Pure
open Go.RowKit Go.Proofs.YtijjnjdfdoaafaaDoor.P Go.Proofs.YtijjnjdfdoaafaaDoorW.PrintWords Go.Proofs.YtijjnjdfdoaafaaDoorW.PrintMore Go.Proofs.YtijjnjdfdoaafaaDoor.Lib
theorem tx_len_low {n : Nat} (h : n ≠ 0) : 10 ^ ((tx n).length - 1) ≤ n := by
  have hd := Dg_tx n
  have hp := tx_pos n
  have e := pv_tx n
  match hl : tx n, hp with
  | x :: xs, _ =>
    rw [hl] at e hd
    have e2 := pv_app [x] xs
    rw [List.singleton_append, e, pv_one] at e2
    obtain ⟨hx, hxs⟩ := Dg_cons.1 hd
    have hx0 : x ≠ 48 ∨ xs = [] := by
      by_cases z : x = 48
      · right
        unfold tx at hl
        rw [if_neg h] at hl
        have h0 : (dl n).getD ((dl n).length - 1) 0 = 48 := by
          have h1 : (dl n).reverse.getD 0 0 = 48 := by rw [hl, z]; rfl
          have hpos : 0 < (dl n).length := by
            have := congrArg List.length hl
            rw [List.length_reverse] at this
            simp at this
            omega
          rw [List.getD_eq_getElem?_getD, List.getElem?_reverse hpos] at h1
          rw [List.getD_eq_getElem?_getD]
          exact h1
        exfalso
        have hne : dl n ≠ [] := by rw [dl_pos h]; simp
        have key : ∀ m, m ≠ 0 → (dl m).getD ((dl m).length - 1) 0 ≠ 48 := by
          intro m
          induction m using Nat.strongRecOn with
          | ind m ih =>
            intro hm
            rw [dl_pos hm]
            by_cases hq : m / 10 = 0
            · rw [hq, dl_zero]
              simp
              omega
            · have := ih (m / 10) (Nat.div_lt_self (by omega) (by omega)) hq
              have hl2 : (dl (m / 10)).length ≠ 0 := by rw [dl_pos hq]; simp
              rw [List.length_cons, show (dl (m / 10)).length + 1 - 1 = ((dl (m / 10)).length - 1) + 1 by omega, List.getD_cons_succ]
              exact this
        exact key n h h0
      · exact .inl z
    rw [List.length_cons, Nat.add_sub_cancel]
    rcases hx0 with z | z
    · have h1 : 1 ≤ (x - 48).toNat := by omega
      have := Nat.mul_le_mul_right (10 ^ xs.length) h1
      rw [Nat.one_mul] at this
      omega
    · rw [z]
      show 1 ≤ n
      omega
theorem tx_len_zero : (tx 0).length = 1 := rfl
theorem len_lt {x y : Nat} (h : (tx x).length < (tx y).length) : x < y := by
  have hx := pv_lt (Dg_tx x)
  rw [pv_tx] at hx
  have y0 : y ≠ 0 := fun z => by
    rw [z, tx_len_zero] at h
    have := tx_pos x
    omega
  have hy := tx_len_low y0
  exact Nat.lt_of_lt_of_le hx (Nat.le_trans (Nat.pow_le_pow_right (by omega) (by omega)) hy)
theorem less_pv : ∀ {a b : List UInt8}, a.length = b.length → Dg (a.map fun z => (z.toNat : Int)) → Dg (b.map fun z => (z.toNat : Int)) →
    Op.bytesLess a b = decide (pv (a.map fun z => (z.toNat : Int)) < pv (b.map fun z => (z.toNat : Int))) := by
  intro a
  induction a with
  | nil =>
    intro b hl _ _
    obtain rfl : b = [] := List.length_eq_zero_iff.1 hl.symm
    rfl
  | cons x xs ih =>
    intro b hl ha hb
    match b, hl with
    | y :: ys, hl =>
      rw [List.map_cons] at ha hb ⊢
      rw [List.map_cons]
      obtain ⟨hx, hxs⟩ := Dg_cons.1 ha
      obtain ⟨hy, hys⟩ := Dg_cons.1 hb
      have hl2 : xs.length = ys.length := by simpa using hl
      have e1 := pv_app [(x.toNat : Int)] (xs.map fun z => (z.toNat : Int))
      have e2 := pv_app [(y.toNat : Int)] (ys.map fun z => (z.toNat : Int))
      rw [List.singleton_append, pv_one, List.length_map] at e1 e2
      have l1 := pv_lt hxs
      have l2 := pv_lt hys
      rw [List.length_map] at l1 l2
      have := ih hl2 hxs hys
      rw [e1, e2]
      unfold Op.bytesLess
      rw [this, ← hl2]
      rw [← hl2] at l2
      generalize 10 ^ xs.length = P at *
      by_cases c : x < y
      · have c2 : x.toNat < y.toNat := UInt8.lt_iff_toNat_lt.1 c
        have := Nat.mul_le_mul_right P (show ((x.toNat : Int) - 48).toNat + 1 ≤ ((y.toNat : Int) - 48).toNat by omega)
        rw [Nat.add_mul] at this
        rw [decide_eq_true (show x < y from c), Bool.true_or]
        exact (decide_eq_true (by omega)).symm
      · by_cases c3 : x = y
        · subst c3
          simp
        · have c2 : y.toNat < x.toNat := by
            have h1 : ¬ x.toNat < y.toNat := fun h => c (UInt8.lt_iff_toNat_lt.2 h)
            have h2 : x.toNat ≠ y.toNat := fun h => c3 (UInt8.toNat_inj.1 h)
            omega
          have := Nat.mul_le_mul_right P (show ((y.toNat : Int) - 48).toNat + 1 ≤ ((x.toNat : Int) - 48).toNat by omega)
          rw [Nat.add_mul] at this
          rw [decide_eq_false (show ¬ x < y from c), Bool.false_or, beq_eq_false_iff_ne.2 c3, Bool.false_and]
          exact (decide_eq_false (by omega)).symm
theorem DigitsOrder : steelyardlaw05_DigitsOrder.Pure := by
  intro a b _ _ ha _ _ hb
  apply Ev.rounds
  have wk : Ev (fun k => steelyardlaw05_DigitsOrder.j0 k a b true) true := Ev.succ (by simp only [steelyardlaw05_DigitsOrder.j0]; exact Ev.ifp trivial (Ev.bind wakes5 (Ev.now _)))
  unfold steelyardlaw05_DigitsOrder.f
  by_cases h1 : (a.length : Int) > 60
  · exact Ev.ifp h1 wk
  refine Ev.ifn h1 ?_
  by_cases h2 : (b.length : Int) > 60
  · rw [decide_eq_true h2]; exact wk
  rw [decide_eq_false h2]
  have sa : S 60 a := S_of (wf_u32 ha) h1
  have sb : S 60 b := S_of (wf_u32 hb) h2
  obtain ⟨A, hA⟩ : ∃ A, V a = A := ⟨_, rfl⟩
  obtain ⟨B, hB⟩ : ∃ B, V b = B := ⟨_, rfl⟩
  have za : (T A).size = (tx A).length := by rw [ns_size, ns_T]
  have zb : (T B).size = (tx B).length := by rw [ns_size, ns_T]
  have rc := cmpI_range A B
  have cm : Ev (fun k => nat_Cmp.f k a b) (cmpI A B) := Cmp_to sa sb (by omega) (by rw [hA, hB])
  have jlt : A < B → Ev (fun k => steelyardlaw05_DigitsOrder.j1 k a b (T A) (T B) 0 true) true := fun h => by
    refine Ev.succ ?_
    simp only [steelyardlaw05_DigitsOrder.j1]
    exact Ev.ifp trivial (Ev.bind cm (Ev.ifp (by omega) (Ev.bind wakes5 (Ev.now _))))
  have jge : ¬ A < B → Ev (fun k => steelyardlaw05_DigitsOrder.j1 k a b (T A) (T B) 0 false) true := fun h => by
    refine Ev.succ ?_
    simp only [steelyardlaw05_DigitsOrder.j1]
    refine Ev.ifn (by decide) ?_
    by_cases e : A = B
    · exact Ev.ifp (by rw [e]) (Ev.bind cm (Ev.ifp (by omega) (Ev.bind wakes5 (Ev.now _))))
    · refine Ev.ifn (fun z => e ?_) (Ev.bind cm (Ev.ifp (by omega) (Ev.bind wakes5 (Ev.now _))))
      have := ns_eq_iff.1 z
      rw [ns_T, ns_T] at this
      rw [← pv_tx A, this, pv_tx]
  refine Ev.succ ?_
  simp only [steelyardlaw05_DigitsOrder.j0]
  refine Ev.ifn (by decide) (Ev.bind (Text_to sa (by omega) hA) (Ev.bind (Text_to sb (by omega) hB) ?_))
  rw [za, zb]
  by_cases c : (tx A).length < (tx B).length
  · exact Ev.ifp (by omega) (jlt (len_lt c))
  refine Ev.ifn (by omega) ?_
  by_cases c2 : (tx A).length = (tx B).length
  · refine Ev.ifp (by omega) ?_
    have e1 : ((T A).toList.map fun z => (z.toNat : Int)) = tx A := by rw [ByteArray.toList_eq]; exact ns_T A
    have e2 : ((T B).toList.map fun z => (z.toNat : Int)) = tx B := by rw [ByteArray.toList_eq]; exact ns_T B
    have := less_pv (a := (T A).toList) (b := (T B).toList) (by
      have := congrArg List.length e1
      have h4 := congrArg List.length e2
      rw [List.length_map] at this h4
      omega) (by rw [e1]; exact Dg_tx A) (by rw [e2]; exact Dg_tx B)
    rw [e1, e2, pv_tx, pv_tx] at this
    rw [this]
    by_cases h : A < B
    · rw [decide_eq_true h]; exact jlt h
    · rw [decide_eq_false h]; exact jge h
  · exact Ev.ifn (by omega) (jge fun h => by have := len_lt (x := B) (y := A) (by omega); omega)
end Go.Proofs.YtijjnjdfdoaafaaDoor.Pure

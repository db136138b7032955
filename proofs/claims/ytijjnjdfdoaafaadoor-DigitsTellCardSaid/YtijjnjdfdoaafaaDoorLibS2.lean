/- Decimal digits of a number, as bytes: the lowest first (dl), the highest first (tx); and what a text is worth (pv). No program in sight. -/
import Derived.Test.YtijjnjdfdoaafaaDoorLibS1
set_option linter.unusedVariables false
set_option linter.unusedSimpArgs false
namespace Go.Proofs.YtijjnjdfdoaafaaDoor.Lib
open Go.RowKit Go.Proofs.YtijjnjdfdoaafaaDoorW.PrintWords Go.Proofs.YtijjnjdfdoaafaaDoorW.PrintMore
/-- Digits. -/
def Dg (l : List Int) : Prop := ∀ x ∈ l, 48 ≤ x ∧ x ≤ 57
/-- What digits, the lowest first, are worth. -/
def lv : List Int → Nat
  | [] => 0
  | x :: xs => (x - 48).toNat + 10 * lv xs
/-- What digits, the highest first, are worth. -/
def pv (l : List Int) : Nat := l.foldl (fun v x => 10 * v + (x - 48).toNat) 0
def dl (n : Nat) : List Int := if h : n = 0 then [] else ((48 + n % 10 : Nat) : Int) :: dl (n / 10)
termination_by n
decreasing_by exact Nat.div_lt_self (by omega) (by omega)
theorem dl_zero : dl 0 = [] := by rw [dl]; rfl
theorem dl_pos {n : Nat} (h : n ≠ 0) : dl n = ((48 + n % 10 : Nat) : Int) :: dl (n / 10) := by rw [dl, dif_neg h]
theorem Dg_nil : Dg [] := fun _ h => by cases h
theorem Dg_cons {x : Int} {l : List Int} : Dg (x :: l) ↔ (48 ≤ x ∧ x ≤ 57) ∧ Dg l := by simp [Dg]
theorem Dg_app {a b : List Int} : Dg (a ++ b) ↔ Dg a ∧ Dg b := by
  simp only [Dg, List.mem_append]
  exact ⟨fun h => ⟨fun x hx => h x (.inl hx), fun x hx => h x (.inr hx)⟩, fun h x hx => hx.elim (h.1 x) (h.2 x)⟩
theorem Dg_B8 {l : List Int} (h : Dg l) : B8 l := fun x hx => by have := h x hx; omega
theorem Dg_take {l : List Int} (h : Dg l) (n : Nat) : Dg (l.take n) := fun x hx => h x (List.mem_of_mem_take hx)
theorem Dg_drop {l : List Int} (h : Dg l) (n : Nat) : Dg (l.drop n) := fun x hx => h x (List.mem_of_mem_drop hx)
theorem Dg_rev {l : List Int} (h : Dg l) : Dg l.reverse := fun x hx => h x (List.mem_reverse.1 hx)
theorem Dg_dl (n : Nat) : Dg (dl n) := by
  induction n using Nat.strongRecOn with
  | ind n ih =>
    by_cases h : n = 0
    · subst h; rw [dl_zero]; exact Dg_nil
    · rw [dl_pos h, Dg_cons]
      exact ⟨by omega, ih _ (Nat.div_lt_self (by omega) (by omega))⟩
theorem lv_dl (n : Nat) : lv (dl n) = n := by
  induction n using Nat.strongRecOn with
  | ind n ih =>
    by_cases h : n = 0
    · subst h; rw [dl_zero]; rfl
    · rw [dl_pos h, lv, ih _ (Nat.div_lt_self (by omega) (by omega))]
      omega
theorem lv_app (a b : List Int) : lv (a ++ b) = lv a + 10 ^ a.length * lv b := by
  induction a with
  | nil => simp [lv]
  | cons x xs ih =>
    rw [List.cons_append, lv, ih, lv, List.length_cons, Nat.pow_succ, Nat.mul_add, ← Nat.mul_assoc, Nat.mul_comm (10 ^ xs.length) 10]
    omega
theorem lv_lt {l : List Int} (h : Dg l) : lv l < 10 ^ l.length := by
  induction l with
  | nil => simp [lv]
  | cons x xs ih =>
    obtain ⟨hx, hxs⟩ := Dg_cons.1 h
    have := ih hxs
    rw [lv, List.length_cons, Nat.pow_succ]
    omega
theorem lv_pos {l : List Int} (h : Dg l) (hl : l ≠ []) (h0 : l.getD (l.length - 1) 0 ≠ 48) : lv l ≠ 0 := by
  induction l with
  | nil => exact absurd rfl hl
  | cons x xs ih =>
    obtain ⟨hx, hxs⟩ := Dg_cons.1 h
    rw [lv]
    by_cases e : xs = []
    · subst e
      simp at h0
      simp [lv]
      omega
    · have hne : xs.length ≠ 0 := fun z => e (List.length_eq_zero_iff.1 z)
      have := ih hxs e (by
        rw [List.length_cons, show xs.length + 1 - 1 = (xs.length - 1) + 1 by omega, List.getD_cons_succ] at h0
        exact h0)
      omega
/-- Digits without a nought at the high end are the digits of what they are worth. -/
theorem dl_lv {l : List Int} (h : Dg l) (h0 : l = [] ∨ l.getD (l.length - 1) 0 ≠ 48) : l = dl (lv l) := by
  induction l with
  | nil => rw [lv, dl_zero]
  | cons x xs ih =>
    obtain ⟨hx, hxs⟩ := Dg_cons.1 h
    have hn : lv (x :: xs) ≠ 0 := lv_pos h (by simp) (h0.resolve_left (by simp))
    have hxs0 : xs = [] ∨ xs.getD (xs.length - 1) 0 ≠ 48 := by
      by_cases e : xs = []
      · exact .inl e
      · have hne : xs.length ≠ 0 := fun z => e (List.length_eq_zero_iff.1 z)
        refine .inr ?_
        have := h0.resolve_left (by simp)
        rw [List.length_cons, show xs.length + 1 - 1 = (xs.length - 1) + 1 by omega, List.getD_cons_succ] at this
        exact this
    rw [dl_pos hn]
    have e1 : lv (x :: xs) % 10 = (x - 48).toNat := by rw [lv]; omega
    have e2 : lv (x :: xs) / 10 = lv xs := by rw [lv]; omega
    rw [e1, e2, ← ih hxs hxs0]
    congr 1
    omega
/-- A number's text. -/
def tx (n : Nat) : List Int := if n = 0 then [48] else (dl n).reverse
theorem Dg_tx (n : Nat) : Dg (tx n) := by
  unfold tx
  split
  · rw [Dg_cons]; exact ⟨by omega, Dg_nil⟩
  · exact Dg_rev (Dg_dl n)
theorem foldl_pv (l : List Int) : ∀ v, l.foldl (fun v x => 10 * v + (x - 48).toNat) v = v * 10 ^ l.length + pv l := by
  unfold pv
  induction l with
  | nil => intro v; simp
  | cons x xs ih =>
    intro v
    rw [List.foldl_cons, List.foldl_cons, ih, ih (10 * 0 + (x - 48).toNat), List.length_cons, Nat.pow_succ, Nat.add_mul, Nat.mul_zero, Nat.zero_add, Nat.mul_comm 10 v, Nat.mul_assoc, Nat.mul_comm 10]
    omega
theorem pv_app (a b : List Int) : pv (a ++ b) = pv a * 10 ^ b.length + pv b := by
  have : pv (a ++ b) = b.foldl (fun v x => 10 * v + (x - 48).toNat) (pv a) := by unfold pv; rw [List.foldl_append]
  rw [this, foldl_pv]
theorem pv_nil : pv [] = 0 := rfl
theorem pv_one (x : Int) : pv [x] = (x - 48).toNat := by unfold pv; simp
theorem pv_rev (l : List Int) : pv l.reverse = lv l := by
  induction l with
  | nil => rfl
  | cons x xs ih => rw [List.reverse_cons, pv_app, ih, pv_one, lv, List.length_singleton]; omega
theorem pv_tx (n : Nat) : pv (tx n) = n := by
  unfold tx
  split
  · rename_i h; rw [h]; rfl
  · rw [pv_rev, lv_dl]
theorem pv_lt {l : List Int} (h : Dg l) : pv l < 10 ^ l.length := by
  have := lv_lt (Dg_rev h)
  rw [← pv_rev, List.reverse_reverse, List.length_reverse] at this
  exact this
theorem tx_pos (n : Nat) : 0 < (tx n).length := by
  unfold tx
  split
  · simp
  · rename_i h
    rw [List.length_reverse, dl_pos h]
    simp
theorem dl_len_le {n k : Nat} (h : n < 10 ^ k) : (dl n).length ≤ k := by
  induction k generalizing n with
  | zero => simp at h; subst h; rw [dl_zero]; simp
  | succ k ih =>
    by_cases h0 : n = 0
    · subst h0; rw [dl_zero]; simp
    · rw [dl_pos h0, List.length_cons]
      have := @ih (n / 10) (by rw [Nat.pow_succ] at h; omega)
      omega
theorem tx_len_le {n k : Nat} (h : n < 10 ^ k) (hk : 0 < k) : (tx n).length ≤ k := by
  unfold tx
  split
  · show 1 ≤ k; omega
  · rw [List.length_reverse]; exact dl_len_le h
theorem tx_of {l : List Int} (h : Dg l) (h0 : l.length = 1 ∨ l ≠ [] ∧ l.getD 0 0 ≠ 48) : l = tx (pv l) := by
  by_cases hz : pv l = 0
  · rw [hz]
    unfold tx
    rw [if_pos rfl]
    rcases h0 with h1 | ⟨h1, h2⟩
    · match l, h1 with
      | [x], _ =>
        rw [pv_one] at hz
        have := (Dg_cons.1 h).1
        congr 1
        omega
    · exfalso
      have h3 : l.reverse ≠ [] := by simpa using h1
      have hne : l.length ≠ 0 := fun z => h1 (List.length_eq_zero_iff.1 z)
      refine lv_pos (Dg_rev h) h3 ?_ (by rw [← pv_rev, List.reverse_reverse]; exact hz)
      rw [List.length_reverse, List.getD_eq_getElem?_getD, List.getElem?_reverse (by omega), show l.length - 1 - (l.length - 1) = 0 by omega, ← List.getD_eq_getElem?_getD]
      exact h2
  · unfold tx
    rw [if_neg hz]
    have hne : l.length ≠ 0 := fun z => hz (by rw [List.length_eq_zero_iff.1 z]; rfl)
    have h2 : l.getD 0 0 ≠ 48 := by
      rcases h0 with h1 | h1
      · match l, h1 with
        | [x], _ =>
          rw [pv_one] at hz
          simp
          omega
      · exact h1.2
    have := dl_lv (Dg_rev h) (.inr (by
      rw [List.length_reverse, List.getD_eq_getElem?_getD, List.getElem?_reverse (by omega), show l.length - 1 - (l.length - 1) = 0 by omega, ← List.getD_eq_getElem?_getD]
      exact h2))
    rw [← pv_rev, List.reverse_reverse] at this
    rw [← this, List.reverse_reverse]
end Go.Proofs.YtijjnjdfdoaafaaDoor.Lib

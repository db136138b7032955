/- Numbers as lists of limbs of 32 bits, the lowest first: what a list is worth (V), the canonical list of a number (L), and how both go together. No program in sight. -/
import Derived.Test.YtijjnjdfdoaafaaDoorYWords
import Derived.Laws.BitsAllLaws
import Derived.Laws.Bits64
import Derived.OpenShut
set_option linter.unusedVariables false
set_option linter.unusedSimpArgs false
namespace Go.Proofs.YtijjnjdfdoaafaaDoor.Lib
open Go.RowKit Go.Proofs.YtijjnjdfdoaafaaDoorW.PrintWords Go.Proofs.YtijjnjdfdoaafaaDoorW.PrintMore

/-! ### rounds -/
theorem Ev.const {α : Type} {a : Option α} {r : α} (h : a = some r) : Ev (fun _ => a) r := ⟨0, fun _ _ => h⟩
theorem Ev.eq {α : Type} {g : Nat → Option α} {r r' : α} (h : Ev g r) (e : r = r') : Ev g r' := e ▸ h
theorem Ev.step' {α : Type} {g f : Nat → Option α} {r : α} (h : ∀ k, g (k + 1) = f k) (k : Ev f r) : Ev g r := Ev.step h k
theorem Ev.succ {α : Type} {g : Nat → Option α} {r : α} (h : Ev (fun k => g (k + 1)) r) : Ev g r := Ev.step (f := fun k => g (k + 1)) (fun _ => rfl) h
theorem Ev.ifp {α : Type} {c : Prop} [Decidable c] {g f : Nat → Option α} {r : α} (hc : c) (h : Ev g r) : Ev (fun n => if c then g n else f n) r := by
  simp only [if_pos hc]; exact h
theorem Ev.ifn {α : Type} {c : Prop} [Decidable c] {g f : Nat → Option α} {r : α} (hc : ¬ c) (h : Ev f r) : Ev (fun n => if c then g n else f n) r := by
  simp only [if_neg hc]; exact h
theorem Ev.more {α : Type} {g : Nat → Option α} {r : α} (h : Ev g r) : Ev (fun k => g (k + 1)) r := by
  obtain ⟨K, h⟩ := h
  exact ⟨K, fun k hk => h (k + 1) (by omega)⟩
theorem Ev.same {α : Type} {g : Nat → Option α} {r r' : α} (h : Ev g r) (h' : Ev g r') : r = r' := by
  obtain ⟨K, h⟩ := h
  obtain ⟨K', h'⟩ := h'
  have e1 := h (K + K') (by omega)
  have e2 := h' (K + K') (by omega)
  rw [e1] at e2
  exact Option.some.inj e2

/-! ### what Go's words come to -/
theorem w64 {x : Int} (h0 : -9223372036854775808 ≤ x) (h1 : x ≤ 9223372036854775807) : wrap64 x = x := by unfold wrap64; omega
theorem wu64 {x : Int} (h0 : 0 ≤ x) (h1 : x ≤ 18446744073709551615) : IntKind.u64.wrap x = x := by rw [IntKind.wrap_u64]; omega
theorem wu32 {x : Int} (h0 : 0 ≤ x) (h1 : x ≤ 4294967295) : IntKind.u32.wrap x = x := by rw [IntKind.wrap_u32]; omega
theorem mx_nat (a b : Nat) : mx (a : Int) (b : Int) = ((max a b : Nat) : Int) := by unfold mx; split <;> omega
theorem mn_nat (a b : Nat) : mn (a : Int) (b : Int) = ((min a b : Nat) : Int) := by unfold mn; split <;> omega

/-! ### V, W, L -/
def V : List Int → Nat
  | [] => 0
  | x :: xs => x.toNat + 4294967296 * V xs
def W (l : List Int) : Prop := ∀ x ∈ l, 0 ≤ x ∧ x < 4294967296
def L (n : Nat) : List Int := if h : n = 0 then [] else ((n % 4294967296 : Nat) : Int) :: L (n / 4294967296)
termination_by n
decreasing_by exact Nat.div_lt_self (by omega) (by omega)

theorem L_zero : L 0 = [] := by rw [L]; rfl
theorem L_pos {n : Nat} (h : n ≠ 0) : L n = ((n % 4294967296 : Nat) : Int) :: L (n / 4294967296) := by rw [L, dif_neg h]
theorem V_nil : V [] = 0 := rfl
theorem V_cons (x : Int) (xs : List Int) : V (x :: xs) = x.toNat + 4294967296 * V xs := rfl
theorem V_L (n : Nat) : V (L n) = n := by
  induction n using Nat.strongRecOn with
  | ind n ih =>
    by_cases h : n = 0
    · subst h; rw [L_zero]; rfl
    · rw [L_pos h, V_cons, ih _ (Nat.div_lt_self (by omega) (by omega))]
      omega
theorem W_nil : W [] := fun _ h => by cases h
theorem W_cons {x : Int} {xs : List Int} : W (x :: xs) ↔ (0 ≤ x ∧ x < 4294967296) ∧ W xs := by
  simp [W]
theorem W_L (n : Nat) : W (L n) := by
  induction n using Nat.strongRecOn with
  | ind n ih =>
    by_cases h : n = 0
    · subst h; rw [L_zero]; exact W_nil
    · rw [L_pos h, W_cons]
      exact ⟨by omega, ih _ (Nat.div_lt_self (by omega) (by omega))⟩
theorem W_app {a b : List Int} : W (a ++ b) ↔ W a ∧ W b := by
  simp only [W, List.mem_append]
  exact ⟨fun h => ⟨fun x hx => h x (.inl hx), fun x hx => h x (.inr hx)⟩, fun h x hx => hx.elim (h.1 x) (h.2 x)⟩
theorem W_take {l : List Int} (h : W l) (n : Nat) : W (l.take n) := fun x hx => h x (List.mem_of_mem_take hx)
theorem W_drop {l : List Int} (h : W l) (n : Nat) : W (l.drop n) := fun x hx => h x (List.mem_of_mem_drop hx)
theorem W_set {l : List Int} (h : W l) (i : Nat) {x : Int} (h0 : 0 ≤ x) (h1 : x < 4294967296) : W (l.set i x) := fun y hy => by
  rcases List.mem_or_eq_of_mem_set hy with hy | rfl
  · exact h y hy
  · exact ⟨h0, h1⟩
theorem W_rep (n : Nat) : W (List.replicate n 0) := fun x hx => by
  have := (List.mem_replicate.1 hx).2
  omega
theorem W_get {l : List Int} (h : W l) (i : Nat) : 0 ≤ l.getD i 0 ∧ l.getD i 0 < 4294967296 := by
  rw [List.getD_eq_getElem?_getD]
  by_cases hi : i < l.length
  · rw [List.getElem?_eq_getElem hi]; exact h _ (List.getElem_mem hi)
  · rw [List.getElem?_eq_none (by omega)]; simp
theorem V_app (a b : List Int) : V (a ++ b) = V a + 4294967296 ^ a.length * V b := by
  induction a with
  | nil => simp [V]
  | cons x xs ih =>
    rw [List.cons_append, V_cons, ih, V_cons, List.length_cons, Nat.pow_succ, Nat.mul_add, ← Nat.mul_assoc, Nat.mul_comm (4294967296 ^ xs.length) 4294967296]
    omega
theorem V_rep (n : Nat) : V (List.replicate n 0) = 0 := by
  induction n with
  | zero => rfl
  | succ n ih => rw [List.replicate_succ, V_cons, ih]; rfl
theorem V_lt {l : List Int} (h : W l) : V l < 4294967296 ^ l.length := by
  induction l with
  | nil => simp [V]
  | cons x xs ih =>
    obtain ⟨hx, hxs⟩ := W_cons.1 h
    have := ih hxs
    rw [V_cons, List.length_cons, Nat.pow_succ]
    have h2 : x.toNat < 4294967296 := by omega
    omega
theorem pow_pos (n : Nat) : 0 < 4294967296 ^ n := Nat.pos_of_ne_zero (by simp)
theorem pow_le {m n : Nat} (h : m ≤ n) : 4294967296 ^ m ≤ 4294967296 ^ n := Nat.pow_le_pow_right (by omega) h
theorem V_take_add (l : List Int) (i : Nat) : V l = V (l.take i) + 4294967296 ^ (min i l.length) * V (l.drop i) := by
  have h := V_app (l.take i) (l.drop i)
  rw [List.take_append_drop, List.length_take] at h
  exact h
theorem V_take_succ (l : List Int) (i : Nat) : V (l.take (i + 1)) = V (l.take i) + 4294967296 ^ i * (l.getD i 0).toNat := by
  by_cases hi : i < l.length
  · rw [List.take_succ_eq_append_getElem hi, V_app, List.length_take, Nat.min_eq_left (by omega), V_cons, V_nil, List.getD_eq_getElem?_getD, List.getElem?_eq_getElem hi]
    simp
  · rw [List.take_of_length_le (by omega), List.take_of_length_le (by omega), List.getD_eq_getElem?_getD, List.getElem?_eq_none (by omega)]
    simp
theorem V_take_all (l : List Int) {i : Nat} (h : l.length ≤ i) : V (l.take i) = V l := by rw [List.take_of_length_le h]
theorem take_set (l : List Int) (i : Nat) (x : Int) (h : i < l.length) : (l.set i x).take (i + 1) = l.take i ++ [x] := by
  rw [List.take_succ_eq_append_getElem (by simpa using h)]
  simp [List.take_set_of_le]
theorem V_take_set (l : List Int) (i : Nat) (x : Int) (h : i < l.length) : V ((l.set i x).take (i + 1)) = V (l.take i) + 4294967296 ^ i * x.toNat := by
  rw [take_set l i x h, V_app, List.length_take, Nat.min_eq_left (by omega), V_cons, V_nil]
  simp
theorem get_set_ne (l : List Int) {i j : Nat} (x : Int) (h : i ≠ j) : (l.set i x).getD j 0 = l.getD j 0 := by
  simp only [List.getD_eq_getElem?_getD, List.getElem?_set_ne h]
theorem get_take (l : List Int) {i j : Nat} (h : j < i) : (l.take i).getD j 0 = l.getD j 0 := by
  simp only [List.getD_eq_getElem?_getD, List.getElem?_take, if_pos h]
theorem get_drop (l : List Int) (i j : Nat) : (l.drop i).getD j 0 = l.getD (i + j) 0 := by
  simp only [List.getD_eq_getElem?_getD, List.getElem?_drop]
theorem V_drop_cons (l : List Int) {i : Nat} (h : i < l.length) : V (l.drop i) = (l.getD i 0).toNat + 4294967296 * V (l.drop (i + 1)) := by
  rw [List.drop_eq_getElem_cons h, V_cons, List.getD_eq_getElem?_getD, List.getElem?_eq_getElem h]
  rfl

/-! ### how long the canonical list is -/
theorem L_len_le {n : Nat} : ∀ {m : Nat}, n < 4294967296 ^ m → (L n).length ≤ m := by
  induction n using Nat.strongRecOn with
  | ind n ih =>
    intro m h
    by_cases h0 : n = 0
    · subst h0; rw [L_zero]; simp
    · cases m with
      | zero => simp at h; omega
      | succ m =>
        rw [L_pos h0, List.length_cons]
        have := @ih _ (Nat.div_lt_self (by omega) (by omega) : n / 4294967296 < n) m (by rw [Nat.pow_succ] at h; omega)
        omega
theorem lt_of_len {n m : Nat} (h : (L n).length ≤ m) : n < 4294967296 ^ m := by
  have h1 := V_lt (W_L n)
  rw [V_L] at h1
  exact Nat.lt_of_lt_of_le h1 (pow_le h)
theorem len_le_iff {n m : Nat} : (L n).length ≤ m ↔ n < 4294967296 ^ m := ⟨lt_of_len, L_len_le⟩
theorem L_inj {a b : Nat} (h : L a = L b) : a = b := by rw [← V_L a, h, V_L]
theorem L_inj_iff {a b : Nat} : L a = L b ↔ a = b := ⟨L_inj, fun h => by rw [h]⟩
theorem L_nil_iff {n : Nat} : L n = [] ↔ n = 0 := by rw [← L_zero]; exact L_inj_iff
theorem L_len_zero {n : Nat} : (L n).length = 0 ↔ n = 0 := by rw [List.length_eq_zero_iff]; exact L_nil_iff

/-- How many limbs count. -/
def U (l : List Int) : Nat := (L (V l)).length
theorem U_le {l : List Int} (h : W l) : U l ≤ l.length := L_len_le (V_lt h)
theorem V_zero_all {l : List Int} (h : W l) (hv : V l = 0) (j : Nat) : l.getD j 0 = 0 := by
  induction l generalizing j with
  | nil => simp
  | cons x xs ih =>
    obtain ⟨hx, hxs⟩ := W_cons.1 h
    rw [V_cons] at hv
    cases j with
    | zero => simp; omega
    | succ j => have := ih hxs (by omega) j; simpa using this
theorem take_U {l : List Int} (h : W l) : l.take (U l) = L (V l) := by
  induction l with
  | nil => simp [U, V, L_zero]
  | cons x xs ih =>
    obtain ⟨hx, hxs⟩ := W_cons.1 h
    unfold U
    by_cases h0 : V (x :: xs) = 0
    · rw [h0, L_zero]; rfl
    · have e1 : V (x :: xs) / 4294967296 = V xs := by rw [V_cons]; omega
      have e2 : ((V (x :: xs) % 4294967296 : Nat) : Int) = x := by rw [V_cons]; omega
      rw [L_pos h0, e1, e2, List.length_cons, List.take_succ_cons]
      have := ih hxs
      unfold U at this
      rw [this]
theorem tail_zero {l : List Int} (h : W l) {j : Nat} (hj : U l ≤ j) : l.getD j 0 = 0 := by
  have e := V_take_add l (U l)
  rw [take_U h, V_L] at e
  have hz : V (l.drop (U l)) = 0 := by
    have hp := pow_pos (min (U l) l.length)
    rcases Nat.eq_zero_or_pos (V (l.drop (U l))) with h1 | h1
    · exact h1
    · have := Nat.mul_pos hp h1
      omega
  have := V_zero_all (W_drop h (U l)) hz (j - U l)
  rw [get_drop] at this
  rwa [Nat.add_sub_cancel' hj] at this
theorem L_last {n : Nat} (h : n ≠ 0) : (L n).getD ((L n).length - 1) 0 ≠ 0 := by
  induction n using Nat.strongRecOn with
  | ind n ih =>
    rw [L_pos h, List.length_cons, Nat.add_sub_cancel]
    by_cases h0 : n / 4294967296 = 0
    · rw [h0, L_zero]
      simp
      omega
    · have := ih _ (Nat.div_lt_self (by omega) (by omega)) h0
      have hl : (L (n / 4294967296)).length ≠ 0 := fun e => h0 (L_len_zero.1 e)
      obtain ⟨m, hm⟩ : ∃ m, (L (n / 4294967296)).length = m + 1 := ⟨_, (Nat.succ_pred hl).symm⟩
      rw [hm] at this ⊢
      simpa using this
theorem U_last {l : List Int} (h : W l) (h0 : U l ≠ 0) : l.getD (U l - 1) 0 ≠ 0 := by
  have hv : V l ≠ 0 := fun e => h0 (by unfold U; rw [e, L_zero]; rfl)
  have := L_last hv
  rw [← take_U h, get_take _ (by rw [List.length_take]; have := U_le h; omega)] at this
  rw [List.length_take, Nat.min_eq_left (U_le h)] at this
  exact this
theorem U_zero {l : List Int} : U l = 0 ↔ V l = 0 := L_len_zero
theorem U_L (n : Nat) : U (L n) = (L n).length := by unfold U; rw [V_L]
theorem V_take_ge {l : List Int} (h : W l) {i : Nat} (hi : U l ≤ i) : V (l.take i) = V l := by
  obtain ⟨d, rfl⟩ := Nat.exists_eq_add_of_le hi
  clear hi
  induction d with
  | zero => rw [Nat.add_zero, take_U h, V_L]
  | succ d ih => rw [← Nat.add_assoc, V_take_succ, ih, tail_zero h (by omega)]; simp
theorem L_head {n : Nat} (h : n ≠ 0) : (L n).getD 0 0 = ((n % 4294967296 : Nat) : Int) := by rw [L_pos h]; rfl
theorem L_one {n : Nat} (h0 : n ≠ 0) (h : n < 4294967296) : L n = [(n : Int)] := by
  rw [L_pos h0, show n / 4294967296 = 0 by omega, L_zero, Nat.mod_eq_of_lt h]

/-! ### what a limb list may be handed on as: limbs, and no longer than a million -/
def G (l : List Int) : Prop := W l ∧ l.length ≤ 1000000
theorem G_L {n m : Nat} (h : n < 4294967296 ^ m) (hm : m ≤ 1000000) : G (L n) := ⟨W_L n, Nat.le_trans (L_len_le h) hm⟩
theorem G_V {l : List Int} (h : W l) {m : Nat} (hm : l.length ≤ m) : V l < 4294967296 ^ m := Nat.lt_of_lt_of_le (V_lt h) (pow_le hm)
theorem add_lt {x y m n : Nat} (h : x < 4294967296 ^ m) (k : y < 4294967296 ^ n) : x + y < 4294967296 ^ (max m n + 1) := by
  have h1 := Nat.lt_of_lt_of_le h (pow_le (Nat.le_max_left m n))
  have h2 := Nat.lt_of_lt_of_le k (pow_le (Nat.le_max_right m n))
  rw [Nat.pow_succ]
  omega
theorem mul_lt {x y m n : Nat} (h : x < 4294967296 ^ m) (k : y < 4294967296 ^ n) : x * y < 4294967296 ^ (m + n) := by
  rw [Nat.pow_add]
  exact Nat.mul_lt_mul'' h k
theorem lt_more {x m n : Nat} (h : x < 4294967296 ^ m) (k : m ≤ n) : x < 4294967296 ^ n := Nat.lt_of_lt_of_le h (pow_le k)
/-- How Go's comparisons tell. -/
def cmpI (x y : Nat) : Int := if x < y then -1 else if y < x then 1 else 0
theorem wf_u32 {l : List Int} (h : ∀ x ∈ l, (Lit.int .u32 x).wf = true) : W l := fun x hx => by
  have := h x hx
  have b := bounds_u32 this
  omega
end Go.Proofs.YtijjnjdfdoaafaaDoor.Lib

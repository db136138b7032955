/- Numbers as lists of limbs of 32 bits, the lowest first: what a list is worth (V), the canonical list of a number (L), and how both go together. No program in sight. · What the printed functions of package nat come to: the canonical limbs of the Nat that the law speaks of. · When two numbers are alike. · What the printed functions of package mul come to. · The printed functions of package nat, said for the laws: of numbers whose worth is known. · What the document's answer for layer 1 (reference 01) comes to. · The printed functions of package mul, said for the laws; the look whether the package wakes: it does. · What the document's answer for layer 2 (reference 02) comes to. · The printed functions of package quo: quotients, what is left, the greatest divisor in common. · What the document's answer for layer 3 (reference 03) comes to: division bit by bit, the greatest divisor in common. · Strings as lists of bytes (ns), and how cuts, sums and the made ones read. No program in sight. · Decimal digits of a number, as bytes: the lowest first (dl), the highest first (tx); and what a text is worth (pv). No program in sight. · The printed functions of package digits: a number's text, a text's number, powers of ten. · The printed functions of package digits, second part: a text's number, powers of ten. · What the document's answer for layer 5 (reference 05) comes to: text, number of a text, power of ten, digit by digit. · A number of one's own is the number. · The printed functions of package root: the square root, downwards and upwards. · What the document's answer for layer 4 (reference 04) comes to: the square root, bit by bit. · Whole numbers: a sign and limbs; the printed functions of package whole and of its reference. · The look whether package digits wakes: it does. · Whole numbers, second part: a text's number, equality, the look whether package whole wakes. · Whole numbers, third part: the order; a text and back. -/
import Derived.Test.YtjgmmaeafodpmaaGreatDoorYWords
import Derived.Laws.BitsAllLaws
import Derived.Laws.Bits64
import Derived.OpenShut
import Derived.Test.YtjgmmaeafodpmaaGreatDoorMx
import Derived.Laws.BytesArg
import Derived.Laws.Strings
set_option linter.unusedVariables false
set_option linter.unusedSimpArgs false
namespace Go.Proofs.YtjgmmaeafodpmaaGreatDoor.Lib
open Go.RowKit Go.Proofs.YtjgmmaeafodpmaaGreatDoorW.PrintWords Go.Proofs.YtjgmmaeafodpmaaGreatDoorW.PrintMore
theorem Ev.const {α : Type} {a : Option α} {r : α} (h : a = some r) : Ev (fun _ => a) r := ⟨0, fun _ _ => h⟩
theorem Ev.eq {α : Type} {g : Nat → Option α} {r r' : α} (h : Ev g r) (e : r = r') : Ev g r' := e ▸ h
theorem Ev.succ {α : Type} {g : Nat → Option α} {r : α} (h : Ev (fun k => g (k + 1)) r) : Ev g r := Ev.step (f := fun k => g (k + 1)) (fun _ => rfl) h
theorem Ev.ifp {α : Type} {c : Prop} [Decidable c] {g f : Nat → Option α} {r : α} (hc : c) (h : Ev g r) : Ev (fun n => if c then g n else f n) r := by
  simp only [if_pos hc]; exact h
theorem Ev.ifn {α : Type} {c : Prop} [Decidable c] {g f : Nat → Option α} {r : α} (hc : ¬ c) (h : Ev f r) : Ev (fun n => if c then g n else f n) r := by
  simp only [if_neg hc]; exact h
theorem Ev.more {α : Type} {g : Nat → Option α} {r : α} (h : Ev g r) : Ev (fun k => g (k + 1)) r := by
  obtain ⟨K, h⟩ := h
  exact ⟨K, fun k hk => h (k + 1) (by omega)⟩
theorem Ev.same {α : Type} {g : Nat → Option α} {r r' : α} (h : Ev g r) (h' : Ev g r') : r = r' := by
  obtain ⟨K, h⟩ := h
  obtain ⟨K', h'⟩ := h'
  have e1 := h (K + K') (by omega)
  have e2 := h' (K + K') (by omega)
  rw [e1] at e2
  exact Option.some.inj e2
theorem w64 {x : Int} (h0 : -9223372036854775808 ≤ x) (h1 : x ≤ 9223372036854775807) : wrap64 x = x := by unfold wrap64; omega
theorem wu64 {x : Int} (h0 : 0 ≤ x) (h1 : x ≤ 18446744073709551615) : IntKind.u64.wrap x = x := by rw [IntKind.wrap_u64]; omega
theorem mx_nat (a b : Nat) : mx (a : Int) (b : Int) = ((max a b : Nat) : Int) := by unfold mx; split <;> omega
theorem mn_nat (a b : Nat) : mn (a : Int) (b : Int) = ((min a b : Nat) : Int) := by unfold mn; split <;> omega
def V : List Int → Nat
  | [] => 0
  | x :: xs => x.toNat + 4294967296 * V xs
def W (l : List Int) : Prop := ∀ x ∈ l, 0 ≤ x ∧ x < 4294967296
def L (n : Nat) : List Int := if h : n = 0 then [] else ((n % 4294967296 : Nat) : Int) :: L (n / 4294967296)
termination_by n
decreasing_by exact Nat.div_lt_self (by omega) (by omega)
theorem L_zero : L 0 = [] := by rw [L]; rfl
theorem L_pos {n : Nat} (h : n ≠ 0) : L n = ((n % 4294967296 : Nat) : Int) :: L (n / 4294967296) := by rw [L, dif_neg h]
theorem V_nil : V [] = 0 := rfl
theorem V_cons (x : Int) (xs : List Int) : V (x :: xs) = x.toNat + 4294967296 * V xs := rfl
theorem V_L (n : Nat) : V (L n) = n := by
  induction n using Nat.strongRecOn with
  | ind n ih =>
    by_cases h : n = 0
    · subst h; rw [L_zero]; rfl
    · rw [L_pos h, V_cons, ih _ (Nat.div_lt_self (by omega) (by omega))]
      omega
theorem W_nil : W [] := fun _ h => by cases h
theorem W_cons {x : Int} {xs : List Int} : W (x :: xs) ↔ (0 ≤ x ∧ x < 4294967296) ∧ W xs := by
  simp [W]
theorem W_L (n : Nat) : W (L n) := by
  induction n using Nat.strongRecOn with
  | ind n ih =>
    by_cases h : n = 0
    · subst h; rw [L_zero]; exact W_nil
    · rw [L_pos h, W_cons]
      exact ⟨by omega, ih _ (Nat.div_lt_self (by omega) (by omega))⟩
theorem W_app {a b : List Int} : W (a ++ b) ↔ W a ∧ W b := by
  simp only [W, List.mem_append]
  exact ⟨fun h => ⟨fun x hx => h x (.inl hx), fun x hx => h x (.inr hx)⟩, fun h x hx => hx.elim (h.1 x) (h.2 x)⟩
theorem W_take {l : List Int} (h : W l) (n : Nat) : W (l.take n) := fun x hx => h x (List.mem_of_mem_take hx)
theorem W_drop {l : List Int} (h : W l) (n : Nat) : W (l.drop n) := fun x hx => h x (List.mem_of_mem_drop hx)
theorem W_set {l : List Int} (h : W l) (i : Nat) {x : Int} (h0 : 0 ≤ x) (h1 : x < 4294967296) : W (l.set i x) := fun y hy => by
  rcases List.mem_or_eq_of_mem_set hy with hy | rfl
  · exact h y hy
  · exact ⟨h0, h1⟩
theorem W_rep (n : Nat) : W (List.replicate n 0) := fun x hx => by
  have := (List.mem_replicate.1 hx).2
  omega
theorem W_get {l : List Int} (h : W l) (i : Nat) : 0 ≤ l.getD i 0 ∧ l.getD i 0 < 4294967296 := by
  rw [List.getD_eq_getElem?_getD]
  by_cases hi : i < l.length
  · rw [List.getElem?_eq_getElem hi]; exact h _ (List.getElem_mem hi)
  · rw [List.getElem?_eq_none (by omega)]; simp
theorem V_app (a b : List Int) : V (a ++ b) = V a + 4294967296 ^ a.length * V b := by
  induction a with
  | nil => simp [V]
  | cons x xs ih =>
    rw [List.cons_append, V_cons, ih, V_cons, List.length_cons, Nat.pow_succ, Nat.mul_add, ← Nat.mul_assoc, Nat.mul_comm (4294967296 ^ xs.length) 4294967296]
    omega
theorem V_rep (n : Nat) : V (List.replicate n 0) = 0 := by
  induction n with
  | zero => rfl
  | succ n ih => rw [List.replicate_succ, V_cons, ih]; rfl
theorem V_lt {l : List Int} (h : W l) : V l < 4294967296 ^ l.length := by
  induction l with
  | nil => simp [V]
  | cons x xs ih =>
    obtain ⟨hx, hxs⟩ := W_cons.1 h
    have := ih hxs
    rw [V_cons, List.length_cons, Nat.pow_succ]
    have h2 : x.toNat < 4294967296 := by omega
    omega
theorem pow_pos (n : Nat) : 0 < 4294967296 ^ n := Nat.pos_of_ne_zero (by simp)
theorem pow_le {m n : Nat} (h : m ≤ n) : 4294967296 ^ m ≤ 4294967296 ^ n := Nat.pow_le_pow_right (by omega) h
theorem V_take_add (l : List Int) (i : Nat) : V l = V (l.take i) + 4294967296 ^ (min i l.length) * V (l.drop i) := by
  have h := V_app (l.take i) (l.drop i)
  rw [List.take_append_drop, List.length_take] at h
  exact h
theorem V_take_succ (l : List Int) (i : Nat) : V (l.take (i + 1)) = V (l.take i) + 4294967296 ^ i * (l.getD i 0).toNat := by
  by_cases hi : i < l.length
  · rw [List.take_succ_eq_append_getElem hi, V_app, List.length_take, Nat.min_eq_left (by omega), V_cons, V_nil, List.getD_eq_getElem?_getD, List.getElem?_eq_getElem hi]
    simp
  · rw [List.take_of_length_le (by omega), List.take_of_length_le (by omega), List.getD_eq_getElem?_getD, List.getElem?_eq_none (by omega)]
    simp
theorem V_take_all (l : List Int) {i : Nat} (h : l.length ≤ i) : V (l.take i) = V l := by rw [List.take_of_length_le h]
theorem take_set (l : List Int) (i : Nat) (x : Int) (h : i < l.length) : (l.set i x).take (i + 1) = l.take i ++ [x] := by
  rw [List.take_succ_eq_append_getElem (by simpa using h)]
  simp [List.take_set_of_le]
theorem V_take_set (l : List Int) (i : Nat) (x : Int) (h : i < l.length) : V ((l.set i x).take (i + 1)) = V (l.take i) + 4294967296 ^ i * x.toNat := by
  rw [take_set l i x h, V_app, List.length_take, Nat.min_eq_left (by omega), V_cons, V_nil]
  simp
theorem get_set_ne (l : List Int) {i j : Nat} (x : Int) (h : i ≠ j) : (l.set i x).getD j 0 = l.getD j 0 := by
  simp only [List.getD_eq_getElem?_getD, List.getElem?_set_ne h]
theorem get_take (l : List Int) {i j : Nat} (h : j < i) : (l.take i).getD j 0 = l.getD j 0 := by
  simp only [List.getD_eq_getElem?_getD, List.getElem?_take, if_pos h]
theorem get_drop (l : List Int) (i j : Nat) : (l.drop i).getD j 0 = l.getD (i + j) 0 := by
  simp only [List.getD_eq_getElem?_getD, List.getElem?_drop]
theorem V_drop_cons (l : List Int) {i : Nat} (h : i < l.length) : V (l.drop i) = (l.getD i 0).toNat + 4294967296 * V (l.drop (i + 1)) := by
  rw [List.drop_eq_getElem_cons h, V_cons, List.getD_eq_getElem?_getD, List.getElem?_eq_getElem h]
  rfl
theorem L_len_le {n : Nat} : ∀ {m : Nat}, n < 4294967296 ^ m → (L n).length ≤ m := by
  induction n using Nat.strongRecOn with
  | ind n ih =>
    intro m h
    by_cases h0 : n = 0
    · subst h0; rw [L_zero]; simp
    · cases m with
      | zero => simp at h; omega
      | succ m =>
        rw [L_pos h0, List.length_cons]
        have := @ih _ (Nat.div_lt_self (by omega) (by omega) : n / 4294967296 < n) m (by rw [Nat.pow_succ] at h; omega)
        omega
theorem lt_of_len {n m : Nat} (h : (L n).length ≤ m) : n < 4294967296 ^ m := by
  have h1 := V_lt (W_L n)
  rw [V_L] at h1
  exact Nat.lt_of_lt_of_le h1 (pow_le h)
theorem len_le_iff {n m : Nat} : (L n).length ≤ m ↔ n < 4294967296 ^ m := ⟨lt_of_len, L_len_le⟩
theorem L_inj {a b : Nat} (h : L a = L b) : a = b := by rw [← V_L a, h, V_L]
theorem L_inj_iff {a b : Nat} : L a = L b ↔ a = b := ⟨L_inj, fun h => by rw [h]⟩
theorem L_nil_iff {n : Nat} : L n = [] ↔ n = 0 := by rw [← L_zero]; exact L_inj_iff
theorem L_len_zero {n : Nat} : (L n).length = 0 ↔ n = 0 := by rw [List.length_eq_zero_iff]; exact L_nil_iff
def U (l : List Int) : Nat := (L (V l)).length
theorem U_le {l : List Int} (h : W l) : U l ≤ l.length := L_len_le (V_lt h)
theorem V_zero_all {l : List Int} (h : W l) (hv : V l = 0) (j : Nat) : l.getD j 0 = 0 := by
  induction l generalizing j with
  | nil => simp
  | cons x xs ih =>
    obtain ⟨hx, hxs⟩ := W_cons.1 h
    rw [V_cons] at hv
    cases j with
    | zero => simp; omega
    | succ j => have := ih hxs (by omega) j; simpa using this
theorem take_U {l : List Int} (h : W l) : l.take (U l) = L (V l) := by
  induction l with
  | nil => simp [U, V, L_zero]
  | cons x xs ih =>
    obtain ⟨hx, hxs⟩ := W_cons.1 h
    unfold U
    by_cases h0 : V (x :: xs) = 0
    · rw [h0, L_zero]; rfl
    · have e1 : V (x :: xs) / 4294967296 = V xs := by rw [V_cons]; omega
      have e2 : ((V (x :: xs) % 4294967296 : Nat) : Int) = x := by rw [V_cons]; omega
      rw [L_pos h0, e1, e2, List.length_cons, List.take_succ_cons]
      have := ih hxs
      unfold U at this
      rw [this]
theorem tail_zero {l : List Int} (h : W l) {j : Nat} (hj : U l ≤ j) : l.getD j 0 = 0 := by
  have e := V_take_add l (U l)
  rw [take_U h, V_L] at e
  have hz : V (l.drop (U l)) = 0 := by
    have hp := pow_pos (min (U l) l.length)
    rcases Nat.eq_zero_or_pos (V (l.drop (U l))) with h1 | h1
    · exact h1
    · have := Nat.mul_pos hp h1
      omega
  have := V_zero_all (W_drop h (U l)) hz (j - U l)
  rw [get_drop] at this
  rwa [Nat.add_sub_cancel' hj] at this
theorem L_last {n : Nat} (h : n ≠ 0) : (L n).getD ((L n).length - 1) 0 ≠ 0 := by
  induction n using Nat.strongRecOn with
  | ind n ih =>
    rw [L_pos h, List.length_cons, Nat.add_sub_cancel]
    by_cases h0 : n / 4294967296 = 0
    · rw [h0, L_zero]
      simp
      omega
    · have := ih _ (Nat.div_lt_self (by omega) (by omega)) h0
      have hl : (L (n / 4294967296)).length ≠ 0 := fun e => h0 (L_len_zero.1 e)
      obtain ⟨m, hm⟩ : ∃ m, (L (n / 4294967296)).length = m + 1 := ⟨_, (Nat.succ_pred hl).symm⟩
      rw [hm] at this ⊢
      simpa using this
theorem U_last {l : List Int} (h : W l) (h0 : U l ≠ 0) : l.getD (U l - 1) 0 ≠ 0 := by
  have hv : V l ≠ 0 := fun e => h0 (by unfold U; rw [e, L_zero]; rfl)
  have := L_last hv
  rw [← take_U h, get_take _ (by rw [List.length_take]; have := U_le h; omega)] at this
  rw [List.length_take, Nat.min_eq_left (U_le h)] at this
  exact this
theorem V_take_ge {l : List Int} (h : W l) {i : Nat} (hi : U l ≤ i) : V (l.take i) = V l := by
  obtain ⟨d, rfl⟩ := Nat.exists_eq_add_of_le hi
  clear hi
  induction d with
  | zero => rw [Nat.add_zero, take_U h, V_L]
  | succ d ih => rw [← Nat.add_assoc, V_take_succ, ih, tail_zero h (by omega)]; simp
theorem L_one {n : Nat} (h0 : n ≠ 0) (h : n < 4294967296) : L n = [(n : Int)] := by
  rw [L_pos h0, show n / 4294967296 = 0 by omega, L_zero, Nat.mod_eq_of_lt h]
def G (l : List Int) : Prop := W l ∧ l.length ≤ 1000000
theorem G_V {l : List Int} (h : W l) {m : Nat} (hm : l.length ≤ m) : V l < 4294967296 ^ m := Nat.lt_of_lt_of_le (V_lt h) (pow_le hm)
theorem add_lt {x y m n : Nat} (h : x < 4294967296 ^ m) (k : y < 4294967296 ^ n) : x + y < 4294967296 ^ (max m n + 1) := by
  have h1 := Nat.lt_of_lt_of_le h (pow_le (Nat.le_max_left m n))
  have h2 := Nat.lt_of_lt_of_le k (pow_le (Nat.le_max_right m n))
  rw [Nat.pow_succ]
  omega
theorem mul_lt {x y m n : Nat} (h : x < 4294967296 ^ m) (k : y < 4294967296 ^ n) : x * y < 4294967296 ^ (m + n) := by
  rw [Nat.pow_add]
  exact Nat.mul_lt_mul'' h k
theorem lt_more {x m n : Nat} (h : x < 4294967296 ^ m) (k : m ≤ n) : x < 4294967296 ^ n := Nat.lt_of_lt_of_le h (pow_le k)
def cmpI (x y : Nat) : Int := if x < y then -1 else if y < x then 1 else 0
theorem wf_u32 {l : List Int} (h : ∀ x ∈ l, (Lit.int .u32 x).wf = true) : W l := fun x hx => by
  have := h x hx
  have b := bounds_u32 this
  omega
end Go.Proofs.YtjgmmaeafodpmaaGreatDoor.Lib
set_option linter.unusedVariables false
set_option linter.unusedSimpArgs false
namespace Go.Proofs.YtjgmmaeafodpmaaGreatDoor.Lib
open Go.RowKit Go.Proofs.YtjgmmaeafodpmaaGreatDoorW.PrintWords Go.Proofs.YtjgmmaeafodpmaaGreatDoorW.PrintMore Go.Proofs.YtjgmmaeafodpmaaGreatDoor.P
theorem rd_nat (l : List Int) (i : Nat) : rd l (i : Int) = l.getD i 0 := rfl
theorem w64_succ {i : Nat} (h : i < 9223372036854775807) : wrap64 ((i : Int) + 1) = ((i + 1 : Nat) : Int) := by rw [w64 (by omega) (by omega)]; omega
theorem w64_pred {i : Nat} (h0 : 0 < i) (h : i < 9223372036854775807) : wrap64 ((i : Int) - 1) = ((i - 1 : Nat) : Int) := by rw [w64 (by omega) (by omega)]; omega
theorem used_spec {l : List Int} (hG : G l) : Ev (fun k => nat_used.f k l) (U l : Int) := by
  obtain ⟨h, hl⟩ := hG
  have hU := U_le h
  have key : ∀ d i : Nat, i = U l + d → i ≤ l.length → Ev (fun k => nat_used.l0 k l (i : Int)) (U l : Int) := by
    intro d
    induction d with
    | zero =>
      intro i hi hil
      obtain rfl : i = U l := by omega
      refine Ev.succ ?_
      simp only [nat_used.l0]
      by_cases h0 : U l = 0
      · exact Ev.ifn (by omega) (Ev.now _)
      · rw [w64_pred (by omega) (by omega), rd_nat]
        exact Ev.ifp (by omega) (Ev.ifp (by omega) (Ev.ifp (by omega) (Ev.ifn (U_last h h0) (Ev.now _))))
    | succ d ih =>
      intro i hi hil
      refine Ev.succ ?_
      simp only [nat_used.l0]
      rw [w64_pred (by omega) (by omega), rd_nat]
      exact Ev.ifp (by omega) (Ev.ifp (by omega) (Ev.ifp (by omega) (Ev.ifp (tail_zero h (by omega)) (ih (i - 1) (by omega) (by omega)))))
  exact key (l.length - U l) l.length (by omega) (Nat.le_refl _)
theorem cpy_take (n : Nat) (l : List Int) (h : n ≤ l.length) : cpy (List.replicate n 0) 0 l = l.take n := by
  simp only [cpy, List.length_replicate, List.take_zero, List.nil_append, Nat.sub_zero, Nat.zero_add]
  rw [List.drop_eq_nil_of_le (by rw [List.length_replicate]; exact h), List.append_nil]
theorem Trim_spec {l : List Int} (hG : G l) : Ev (fun k => nat_Trim.f k l) (L (V l)) := by
  have hU := U_le hG.1
  have hl := hG.2
  unfold nat_Trim.f
  refine Ev.bind (used_spec hG) (Ev.ifp (by omega) (Ev.ifp (by omega) (Ev.const ?_)))
  rw [Int.toNat_natCast, cpy_take _ _ hU, take_U hG.1]
theorem Of_spec {v : Int} (h0 : 0 ≤ v) (h1 : v < 18446744073709551616) : Ev (fun k => nat_Of.f k v) (L v.toNat) := by
  have hW : W [v % 4294967296, (v / 4294967296) % 4294967296] := by
    rw [W_cons, W_cons]
    exact ⟨by omega, by omega, W_nil⟩
  have hV : V [v % 4294967296, (v / 4294967296) % 4294967296] = v.toNat := by
    simp only [V_cons, V_nil]
    omega
  unfold nat_Of.f
  refine Ev.bind (Trim_spec ⟨hW, by simp⟩) ?_
  rw [hV]
  exact Ev.now _
theorem compare_int (a b : Int) : cmp_Compare_int.f a b = some (if a < b then -1 else if a > b then 1 else 0) := by
  simp only [cmp_Compare_int.f, cmp_isNaN_int.f, bne_self_eq_false, Option.bind_some, if_neg (show ¬ (false = true) by decide)]
  split
  · rfl
  · split <;> rfl
theorem compare_u32 (a b : Int) : cmp_Compare_uint32.f a b = some (if a < b then -1 else if a > b then 1 else 0) := by
  simp only [cmp_Compare_uint32.f, cmp_isNaN_uint32.f, bne_self_eq_false, Option.bind_some, if_neg (show ¬ (false = true) by decide)]
  split
  · rfl
  · split <;> rfl
theorem cmp_step {x y p a b : Nat} (hx : x < p) (hy : y < p) (h : a < b) : x + p * a < y + p * b := by
  have : p * (a + 1) ≤ p * b := Nat.mul_le_mul_left _ h
  rw [Nat.mul_add] at this
  omega
theorem V_take_lt {l : List Int} (h : W l) (i : Nat) : V (l.take i) < 4294967296 ^ i := Nat.lt_of_lt_of_le (V_lt (W_take h i)) (pow_le (by rw [List.length_take]; omega))
theorem V_ge {l : List Int} (h0 : U l ≠ 0) : 4294967296 ^ (U l - 1) ≤ V l := by
  rcases Nat.lt_or_ge (V l) (4294967296 ^ (U l - 1)) with h | h
  · have := L_len_le h
    have e : (L (V l)).length = U l := rfl
    omega
  · exact h
theorem V_lt_U {l : List Int} : V l < 4294967296 ^ U l := lt_of_len (Nat.le_refl _)
theorem cmpI_lt {x y : Nat} (h : x < y) : cmpI x y = -1 := by unfold cmpI; rw [if_pos h]
theorem cmpI_gt {x y : Nat} (h : y < x) : cmpI x y = 1 := by unfold cmpI; rw [if_neg (by omega), if_pos h]
theorem cmpI_eq (x : Nat) : cmpI x x = 0 := by unfold cmpI; rw [if_neg (by omega), if_neg (by omega)]
theorem cmpI_add (x y z : Nat) : cmpI (x + z) (y + z) = cmpI x y := by
  unfold cmpI
  by_cases h : x < y
  · rw [if_pos h, if_pos (by omega)]
  · rw [if_neg h, if_neg (by omega)]
    by_cases h2 : y < x
    · rw [if_pos h2, if_pos (by omega)]
    · rw [if_neg h2, if_neg (by omega)]
theorem carry_zero {p c x y : Nat} (h : x + p * c = y) (hy : y < p) : c = 0 := by
  rcases Nat.eq_zero_or_pos c with h0 | h0
  · exact h0
  · have := Nat.mul_le_mul_left p h0
    omega
theorem Cmp_spec {a b : List Int} (ha : G a) (hb : G b) : Ev (fun k => nat_Cmp.f k a b) (cmpI (V a) (V b)) := by
  have hUa := U_le ha.1
  have hUb := U_le hb.1
  have hla := ha.2
  have hlb := hb.2
  have key : ∀ i : Nat, i ≤ a.length → i ≤ b.length → Ev (fun k => nat_Cmp.l0 k a b ((i : Int) - 1)) (cmpI (V (a.take i)) (V (b.take i))) := by
    intro i
    induction i with
    | zero =>
      intro _ _
      refine Ev.succ ?_
      simp only [nat_Cmp.l0]
      refine Ev.ifn (by omega) ?_
      simp only [List.take_zero, cmpI_eq]
      exact Ev.now _
    | succ i ih =>
      intro h1 h2
      refine Ev.succ ?_
      simp only [nat_Cmp.l0]
      rw [show (((i + 1 : Nat) : Int) - 1) = (i : Int) by omega, rd_nat, rd_nat, compare_u32]
      refine Ev.ifp (by omega) (Ev.ifp (by omega) (Ev.ifp (by omega) (Ev.ifp (by omega) ?_)))
      simp only [Option.bind_some]
      have g1 := W_get ha.1 i
      have g2 := W_get hb.1 i
      have t1 := V_take_lt ha.1 i
      have t2 := V_take_lt hb.1 i
      rw [V_take_succ, V_take_succ]
      by_cases c1 : a.getD i 0 < b.getD i 0
      · rw [if_pos c1, cmpI_lt (cmp_step t1 t2 (by omega))]
        exact Ev.ifn (by omega) (Ev.now _)
      · by_cases c2 : a.getD i 0 > b.getD i 0
        · rw [if_neg c1, if_pos c2, cmpI_gt (cmp_step t2 t1 (by omega))]
          exact Ev.ifn (by omega) (Ev.now _)
        · rw [if_neg c1, if_neg c2]
          refine Ev.ifp rfl ?_
          rw [w64 (by omega) (by omega)]
          have e : (a.getD i 0).toNat = (b.getD i 0).toNat := by omega
          rw [e, cmpI_add]
          exact ih (by omega) (by omega)
  unfold nat_Cmp.f
  refine Ev.bind (used_spec ha) (Ev.bind (used_spec hb) ?_)
  rw [compare_int]
  simp only [Option.bind_some]
  by_cases c1 : U a < U b
  · rw [if_pos (by omega)]
    refine Ev.ifn (by omega) ?_
    rw [cmpI_lt]
    · exact Ev.now _
    · exact Nat.lt_of_lt_of_le (Nat.lt_of_lt_of_le V_lt_U (pow_le (by omega))) (V_ge (by omega))
  · by_cases c2 : U b < U a
    · rw [if_neg (by omega), if_pos (by omega)]
      refine Ev.ifn (by omega) ?_
      rw [cmpI_gt]
      · exact Ev.now _
      · exact Nat.lt_of_lt_of_le (Nat.lt_of_lt_of_le V_lt_U (pow_le (by omega))) (V_ge (by omega))
    · rw [if_neg (by omega), if_neg (by omega)]
      refine Ev.ifp rfl ?_
      rw [w64 (by omega) (by omega)]
      refine Ev.eq (key (U a) hUa (by omega)) ?_
      rw [V_take_ge ha.1 (Nat.le_refl _), show U a = U b by omega, V_take_ge hb.1 (Nat.le_refl _)]
theorem at_spec (l : List Int) (i : Nat) : nat_at.f l (i : Int) = some (l.getD i 0) := by
  unfold nat_at.f
  by_cases h : i < l.length
  · rw [if_pos (by omega), if_pos (by omega), rd_nat]
  · rw [if_neg (by omega), List.getD_eq_getElem?_getD, List.getElem?_eq_none (by omega)]
    rfl
theorem Add32_spec {a b c : Int} (ha : 0 ≤ a ∧ a < 4294967296) (hb : 0 ≤ b ∧ b < 4294967296) (hc : 0 ≤ c ∧ c ≤ 1) : bits_Add32.f a b c = some ((a + b + c) % 4294967296, (a + b + c) / 4294967296) := by
  unfold bits_Add32.f
  rw [wu64 (x := a) (by omega) (by omega), wu64 (x := b) (by omega) (by omega), wu64 (x := c) (by omega) (by omega), wu64 (x := a + b) (by omega) (by omega), wu64 (x := a + b + c) (by omega) (by omega)]
  congr 2
  omega
theorem Add_loop {a b : List Int} (ha : W a) (hb : W b) (n : Nat) (hn : n ≤ 1000000) (hlt : V (a.take n) + V (b.take n) < 4294967296 ^ n) : ∀ d i (out : List Int) (c : Int), n = i + d → out.length = n → W out → 0 ≤ c ∧ c ≤ 1 →
    V (out.take i) + 4294967296 ^ i * c.toNat = V (a.take i) + V (b.take i) → Ev (fun k => nat_Add.l0 k a b out c (n : Int) (i : Int)) (L (V (a.take n) + V (b.take n))) := by
  intro d
  induction d with
  | zero =>
    intro i out c hi ho hw hc hv
    obtain rfl : n = i := by omega
    refine Ev.succ ?_
    simp only [nat_Add.l0]
    refine Ev.ifn (by omega) ?_
    have hc0 : c.toNat = 0 := carry_zero hv hlt
    have hv2 : V out = V (a.take n) + V (b.take n) := by
      rw [← hv, hc0, V_take_all out (by omega), Nat.mul_zero, Nat.add_zero]
    refine Ev.bind (Trim_spec ⟨hw, by omega⟩) ?_
    rw [hv2]
    exact Ev.now _
  | succ d ih =>
    intro i out c hi ho hw hc hv
    refine Ev.succ ?_
    simp only [nat_Add.l0, at_spec, Option.bind_some]
    have g1 := W_get ha i
    have g2 := W_get hb i
    rw [Add32_spec g1 g2 hc]
    simp only [Option.bind_some]
    refine Ev.ifp (by omega) (Ev.ifp (by omega) (Ev.ifp (by omega) ?_))
    rw [w64_succ (by omega), Int.toNat_natCast]
    refine ih (i + 1) _ _ (by omega) (by rw [List.length_set]; exact ho) (W_set hw i (by omega) (by omega)) (by omega) ?_
    rw [V_take_set _ _ _ (by omega), V_take_succ, V_take_succ, Nat.pow_succ]
    generalize 4294967296 ^ i = p at *
    have e1 : a.getD i 0 + b.getD i 0 + c = 4294967296 * ((a.getD i 0 + b.getD i 0 + c) / 4294967296) + (a.getD i 0 + b.getD i 0 + c) % 4294967296 := by omega
    have e2 : (a.getD i 0).toNat + (b.getD i 0).toNat + c.toNat = 4294967296 * ((a.getD i 0 + b.getD i 0 + c) / 4294967296).toNat + ((a.getD i 0 + b.getD i 0 + c) % 4294967296).toNat := by omega
    have e3 := congrArg (p * ·) e2
    simp only [Nat.mul_add] at e3
    rw [Nat.mul_assoc p 4294967296]
    omega
theorem Add_spec {a b : List Int} (ha : G a) (hb : G b) (hla : a.length < 1000000) (hlb : b.length < 1000000) : Ev (fun k => nat_Add.f k a b) (L (V a + V b)) := by
  have hUa := U_le ha.1
  have hUb := U_le hb.1
  unfold nat_Add.f
  refine Ev.bind (used_spec ha) (Ev.bind (used_spec hb) ?_)
  rw [mx_nat, w64_succ (by omega), Int.toNat_natCast]
  refine Ev.ifp (by omega) (Ev.ifp (by omega) ?_)
  simp only [Option.bind_some, List.length_replicate]
  have ea := V_take_ge ha.1 (i := max (U a) (U b) + 1) (by omega)
  have eb := V_take_ge hb.1 (i := max (U a) (U b) + 1) (by omega)
  have hlt := add_lt (V_lt_U (l := a)) (V_lt_U (l := b))
  have hcp : W (cpy (List.replicate (max (U a) (U b) + 1) 0) 0 a) := by
    unfold cpy
    rw [W_app, W_app]
    exact ⟨W_take (W_rep _) _, W_take ha.1 _, W_drop (W_rep _) _⟩
  have := Add_loop ha.1 hb.1 (max (U a) (U b) + 1) (by omega) (by rw [ea, eb]; exact hlt) (max (U a) (U b) + 1) 0 _ 0 (by omega) (by rw [cpy_length _ _ _ (by simp), List.length_replicate]) hcp (by omega) (by simp [V])
  rw [ea, eb] at this
  exact this
theorem top_bit {x : Nat} (h : x < 4294967296) : x / 2147483648 = (x.testBit 31).toNat := by
  rw [Nat.testBit_eq_decide_div_mod_eq]
  rw [show (2 : Nat) ^ 31 = 2147483648 from rfl]
  by_cases c : x / 2147483648 % 2 = 1
  · rw [decide_eq_true c]; simp; omega
  · rw [decide_eq_false c]; simp; omega
theorem top_true {x : Nat} (h : x < 4294967296) : x.testBit 31 = decide (2147483648 ≤ x) := by
  rw [Nat.testBit_eq_decide_div_mod_eq]
  rw [show (2 : Nat) ^ 31 = 2147483648 from rfl]
  by_cases c : 2147483648 ≤ x
  · rw [decide_eq_true c, decide_eq_true (by omega)]
  · rw [decide_eq_false c, decide_eq_false (by omega)]
theorem borrow_nat (A C D c : Nat) (hA : A < 4294967296) (hC : C < 4294967296) (hD : D < 4294967296) (hc : c ≤ 1) (h : D + C + c = A ∨ D + C + c = A + 4294967296) :
    (((4294967295 ^^^ A) &&& C) ||| ((4294967295 ^^^ (A ^^^ C)) &&& D)) / 2147483648 = if A < C + c then 1 else 0 := by
  have hx : ((4294967295 ^^^ A) &&& C) ||| ((4294967295 ^^^ (A ^^^ C)) &&& D) < 4294967296 :=
    Nat.or_lt_two_pow (n := 32) (Nat.and_lt_two_pow _ hC) (Nat.and_lt_two_pow _ hD)
  rw [top_bit hx, Nat.testBit_or, Nat.testBit_and, Nat.testBit_and, Nat.testBit_xor, Nat.testBit_xor, Nat.testBit_xor, top_true hA, top_true hC, top_true hD, show Nat.testBit 4294967295 31 = true from by decide]
  by_cases a1 : 2147483648 ≤ A <;> by_cases c1 : 2147483648 ≤ C <;> by_cases d1 : 2147483648 ≤ D <;> simp only [a1, c1, d1, decide_true, decide_false, Bool.xor_true, Bool.xor_false, Bool.not_true, Bool.not_false, Bool.and_true, Bool.and_false, Bool.or_true, Bool.or_false, Bool.true_and, Bool.false_and, Bool.true_or, Bool.false_or, Bool.toNat_true, Bool.toNat_false, Bool.false_xor, Bool.true_xor] <;> split <;> omega
theorem Sub32_spec {a b c : Int} (ha : 0 ≤ a ∧ a < 4294967296) (hb : 0 ≤ b ∧ b < 4294967296) (hc : 0 ≤ c ∧ c ≤ 1) :
    bits_Sub32.f a b c = some ((a - b - c) % 4294967296, if a < b + c then 1 else 0) := by
  unfold bits_Sub32.f
  have hd : (((a - b) % 4294967296) - c) % 4294967296 = (a - b - c) % 4294967296 := by omega
  rw [hd]
  obtain ⟨A, rfl⟩ := Int.eq_ofNat_of_zero_le ha.1
  obtain ⟨C, rfl⟩ := Int.eq_ofNat_of_zero_le hb.1
  obtain ⟨c, rfl⟩ := Int.eq_ofNat_of_zero_le hc.1
  obtain ⟨D, hD⟩ := Int.eq_ofNat_of_zero_le (show 0 ≤ ((A : Int) - C - c) % 4294967296 by omega)
  have hDl : D < 4294967296 := by omega
  have hbor := borrow_nat A C D c (by omega) (by omega) hDl (by omega) (by omega)
  have lx : ∀ x : Nat, x < 4294967296 → 4294967295 ^^^ x < 4294967296 := fun x hx => Nat.xor_lt_two_pow (n := 32) (by decide) hx
  have lx2 : A ^^^ C < 4294967296 := Nat.xor_lt_two_pow (n := 32) (by omega) (by omega)
  rw [hD, show (4294967295 : Int) = ((4294967295 : Nat) : Int) from rfl, u32_xor_nat _ _ (by decide) (by omega), u32_xor_nat A C (by omega) (by omega), u32_xor_nat _ _ (by decide) lx2,
    u32_and_nat _ _ (lx _ (by omega)) (by omega), u32_and_nat _ _ (lx _ lx2) hDl, u32_or_nat _ _ (Nat.and_lt_two_pow (n := 32) _ (by omega)) (Nat.and_lt_two_pow (n := 32) _ hDl)]
  congr 2
  rw [show (2147483648 : Int) = ((2147483648 : Nat) : Int) from rfl, ← Int.natCast_ediv, hbor]
  split
  · rw [if_pos (by omega)]; rfl
  · rw [if_neg (by omega)]; rfl
theorem Sub_loop {t b : List Int} (ht : W t) (hb : W b) (hl : t.length ≤ 1000000) (hle : V (b.take t.length) ≤ V t) : ∀ d i (out : List Int) (c : Int), t.length = i + d → out.length = t.length → W out → 0 ≤ c ∧ c ≤ 1 →
    (∀ j, i ≤ j → out.getD j 0 = t.getD j 0) → V (out.take i) + V (b.take i) = V (t.take i) + 4294967296 ^ i * c.toNat → Ev (fun k => nat_Sub.l0 k b out c (t.length : Int) (i : Int)) (L (V t - V (b.take t.length)), true) := by
  intro d
  induction d with
  | zero =>
    intro i out c hi ho hw hc hs hv
    obtain rfl : t.length = i := by omega
    refine Ev.succ ?_
    simp only [nat_Sub.l0]
    refine Ev.ifn (by omega) ?_
    rw [V_take_all out (by omega), V_take_all t (by omega)] at hv
    have hlt := V_lt hw
    rw [ho] at hlt
    have hc0 : c.toNat = 0 := by
      rcases Nat.eq_zero_or_pos c.toNat with h | h
      · exact h
      · have h1 := Nat.mul_le_mul_left (4294967296 ^ t.length) h
        have h3 := V_lt ht
        generalize 4294967296 ^ t.length = p at *
        omega
    rw [hc0, Nat.mul_zero, Nat.add_zero] at hv
    have hv2 : V out = V t - V (b.take t.length) := by omega
    refine Ev.bind (Trim_spec ⟨hw, by omega⟩) ?_
    rw [hv2]
    exact Ev.now _
  | succ d ih =>
    intro i out c hi ho hw hc hs hv
    refine Ev.succ ?_
    have g1 := W_get ht i
    have g2 := W_get hb i
    simp only [nat_Sub.l0, at_spec, Option.bind_some, rd_nat, hs i (Nat.le_refl _)]
    rw [Sub32_spec g1 g2 hc]
    simp only [Option.bind_some]
    refine Ev.ifp (by omega) (Ev.ifp (by omega) (Ev.ifp (by omega) ?_))
    rw [w64_succ (by omega), Int.toNat_natCast]
    refine ih (i + 1) _ _ (by omega) (by rw [List.length_set]; exact ho) (W_set hw i (by omega) (by omega)) (by split <;> omega) (fun j hj => by rw [get_set_ne _ _ (by omega)]; exact hs j (by omega)) ?_
    rw [V_take_set _ _ _ (by omega), V_take_succ, V_take_succ, Nat.pow_succ]
    generalize 4294967296 ^ i = p at *
    have e2 : ((t.getD i 0 - b.getD i 0 - c) % 4294967296).toNat + (b.getD i 0).toNat + c.toNat = (t.getD i 0).toNat + 4294967296 * (if t.getD i 0 < b.getD i 0 + c then (1 : Int) else 0).toNat := by
      split <;> omega
    have e3 := congrArg (p * ·) e2
    simp only [Nat.mul_add] at e3
    rw [Nat.mul_assoc p 4294967296]
    omega
theorem Sub_spec {a b : List Int} (ha : G a) (hb : G b) : Ev (fun k => nat_Sub.f k a b) (if V a < V b then ([], false) else (L (V a - V b), true)) := by
  have hUa := U_le ha.1
  have hla := ha.2
  unfold nat_Sub.f
  refine Ev.bind (Cmp_spec ha hb) ?_
  by_cases h : V a < V b
  · rw [cmpI_lt h, if_pos h]
    exact Ev.ifp (by omega) (Ev.now _)
  · rw [if_neg h]
    refine Ev.ifn ?_ (Ev.bind (Trim_spec ha) ?_)
    · unfold cmpI
      rw [if_neg h]
      split <;> omega
    · have hU : U b ≤ (L (V a)).length := by
        have h1 : V b < 4294967296 ^ (L (V a)).length := Nat.lt_of_le_of_lt (by omega) (lt_of_len (Nat.le_refl (L (V a)).length))
        exact L_len_le h1
      have eb := V_take_ge hb.1 hU
      have := Sub_loop (W_L (V a)) hb.1 (by have : (L (V a)).length = U a := rfl; omega) (by rw [eb, V_L]; omega) (L (V a)).length 0 (L (V a)) 0 (by omega) rfl (W_L _) (by omega) (fun _ _ => rfl) (by simp [V])
      rw [eb, V_L] at this
      exact this
def bl (n : Nat) : Nat := if n = 0 then 0 else Nat.log2 n + 1
theorem bl_zero : bl 0 = 0 := rfl
theorem bl_unique {n m : Nat} (h0 : 2 ^ m ≤ n) (h1 : n < 2 ^ (m + 1)) : bl n = m + 1 := by
  have hn : n ≠ 0 := by have := Nat.two_pow_pos m; omega
  unfold bl
  rw [if_neg hn]
  have := (Nat.le_log2 hn).2 h0
  have := (Nat.log2_lt hn).2 h1
  omega
theorem bl_lt (n : Nat) : n < 2 ^ bl n := by
  unfold bl
  split
  · omega
  · rename_i h
    exact (Nat.log2_lt h).1 (by omega)
theorem bl_le {n : Nat} (h : n ≠ 0) : 2 ^ (bl n - 1) ≤ n := by
  unfold bl
  rw [if_neg h, Nat.add_sub_cancel]
  exact (Nat.le_log2 h).1 (Nat.le_refl _)
theorem bl_pos {n : Nat} (h : n ≠ 0) : 0 < bl n := by unfold bl; rw [if_neg h]; omega
theorem bl_le_iff {n m : Nat} : bl n ≤ m ↔ n < 2 ^ m := by
  constructor
  · intro h
    exact Nat.lt_of_lt_of_le (bl_lt n) (Nat.pow_le_pow_right (by omega) h)
  · intro h
    by_cases h0 : n = 0
    · subst h0; rw [bl_zero]; omega
    · rcases Nat.lt_or_ge m (bl n) with h1 | h1
      · have h2 := bl_le h0
        have h3 : 2 ^ m ≤ 2 ^ (bl n - 1) := Nat.pow_le_pow_right (by omega) (by omega)
        omega
      · exact h1
theorem bl_shift {n k : Nat} (h : n / 2 ^ k ≠ 0) : bl n = bl (n / 2 ^ k) + k := by
  have hp := Nat.two_pow_pos k
  obtain ⟨m, hm⟩ : ∃ m, bl (n / 2 ^ k) = m + 1 := ⟨_, (Nat.succ_pred (Nat.ne_of_gt (bl_pos h))).symm⟩
  have h1 := bl_le h
  have h2 := bl_lt (n / 2 ^ k)
  rw [hm] at h1 h2 ⊢
  rw [Nat.add_sub_cancel] at h1
  rw [show m + 1 + k = (m + k) + 1 by omega]
  refine bl_unique ?_ ?_
  · rw [Nat.pow_add]
    exact Nat.le_trans (Nat.mul_le_mul_right _ h1) (Nat.div_mul_le_self _ _)
  · rw [show m + k + 1 = (m + 1) + k by omega, Nat.pow_add]
    exact (Nat.div_lt_iff_lt_mul hp).1 h2
theorem Len_small : ∀ x : Fin 256, bits_Len32.f ((x.val : Nat) : Int) = some ((bl x.val : Nat) : Int) := by decide +kernel
theorem Len32_spec {x : Nat} (h : x < 4294967296) : bits_Len32.f (x : Int) = some ((bl x : Nat) : Int) := by
  have small : ∀ y : Nat, y < 256 → bits_Len32.f (y : Int) = some ((bl y : Nat) : Int) := fun y hy => Len_small ⟨y, hy⟩
  by_cases h1 : x < 256
  · exact small x h1
  · have up : ∀ y q : Nat, y / 256 = q → q ≠ 0 → bl y = bl q + 8 := fun y q hq h0 => by
      have := bl_shift (n := y) (k := 8) (by rw [show (2 : Nat) ^ 8 = 256 from rfl]; omega)
      rw [this, show (2 : Nat) ^ 8 = 256 from rfl, hq]
    obtain ⟨T, hT⟩ : ∃ T, ∀ a : Int, bits_Len32.f a = if a ≥ 65536 then (if (a / 65536) ≥ 256 then (if 0 ≤ (((a / 65536) / 256) % 256) then (if (((a / 65536) / 256) % 256) < 256 then (some (wrap64 ((16 + 8) + (wrap64 (bt T (((a / 65536) / 256) % 256)))))) else (none)) else (none)) else (if 0 ≤ ((a / 65536) % 256) then (if ((a / 65536) % 256) < 256 then (some (wrap64 (16 + (wrap64 (bt T ((a / 65536) % 256)))))) else (none)) else (none))) else (if a ≥ 256 then (if 0 ≤ ((a / 256) % 256) then (if ((a / 256) % 256) < 256 then (some (wrap64 ((0 + 8) + (wrap64 (bt T ((a / 256) % 256)))))) else (none)) else (none)) else (if 0 ≤ ((a) % 256) then (if ((a) % 256) < 256 then (some (wrap64 (0 + (wrap64 (bt T ((a) % 256)))))) else (none)) else (none))) := ⟨_, fun a => rfl⟩
    have base : ∀ q : Nat, q < 256 → bt T (q : Int) = ((bl q : Nat) : Int) := fun q hq => by
      have e := small q hq
      have hb := bt_range T (q : Int)
      rw [hT, if_neg (by omega), if_neg (by omega), if_pos (by omega), if_pos (by omega)] at e
      have e2 := Option.some.inj e
      rw [show ((q : Int) % 256) = (q : Int) by omega, w64 (x := bt T (q : Int)) (by omega) (by omega), w64 (by omega) (by omega)] at e2
      omega
    rw [hT]
    have f1 : ((x : Int) / 65536) = ((x / 65536 : Nat) : Int) := by omega
    have f2 : ((x : Int) / 256) = ((x / 256 : Nat) : Int) := by omega
    by_cases h2 : x < 65536
    · rw [if_neg (by omega), if_pos (by omega), if_pos (by omega), if_pos (by omega), show ((x : Int) / 256) % 256 = ((x / 256 : Nat) : Int) by omega, base _ (by omega), up x (x / 256) rfl (by omega)]
      have hb : bl (x / 256) ≤ 8 := bl_le_iff.2 (by rw [show (2 : Nat) ^ 8 = 256 from rfl]; omega)
      rw [w64 (x := ((bl (x / 256) : Nat) : Int)) (by omega) (by omega), w64 (by omega) (by omega)]
      congr 1
      omega
    · have e16 : bl x = bl (x / 65536) + 16 := by
        have := bl_shift (n := x) (k := 16) (by rw [show (2 : Nat) ^ 16 = 65536 from rfl]; omega)
        rw [this, show (2 : Nat) ^ 16 = 65536 from rfl]
      by_cases h3 : x / 65536 < 256
      · rw [if_pos (by omega), if_neg (by omega), if_pos (by omega), if_pos (by omega), show ((x : Int) / 65536) % 256 = ((x / 65536 : Nat) : Int) by omega, base _ h3, e16]
        have hb : bl (x / 65536) ≤ 8 := bl_le_iff.2 (by rw [show (2 : Nat) ^ 8 = 256 from rfl]; omega)
        rw [w64 (x := ((bl (x / 65536) : Nat) : Int)) (by omega) (by omega), w64 (by omega) (by omega)]
        congr 1
        omega
      · rw [if_pos (by omega), if_pos (by omega), if_pos (by omega), if_pos (by omega), show ((x : Int) / 65536) / 256 % 256 = ((x / 65536 / 256 : Nat) : Int) by omega, base _ (by omega), e16, up (x / 65536) (x / 65536 / 256) rfl (by omega)]
        have hb : bl (x / 65536 / 256) ≤ 8 := bl_le_iff.2 (by rw [show (2 : Nat) ^ 8 = 256 from rfl]; omega)
        rw [w64 (x := ((bl (x / 65536 / 256) : Nat) : Int)) (by omega) (by omega), w64 (by omega) (by omega)]
        congr 1
        omega
theorem pow32 (n : Nat) : 4294967296 ^ n = 2 ^ (32 * n) := by rw [Nat.pow_mul]
theorem V_div (l : List Int) (h : W l) (i : Nat) : V l / 4294967296 ^ i = V (l.drop i) := by
  rw [V_take_add l i]
  by_cases hi : i ≤ l.length
  · rw [Nat.min_eq_left hi, Nat.add_mul_div_left _ _ (pow_pos i), Nat.div_eq_of_lt (V_take_lt h i), Nat.zero_add]
  · rw [List.drop_eq_nil_of_le (by omega), V_nil, Nat.mul_zero, Nat.add_zero]
    exact Nat.div_eq_of_lt (V_take_lt h i)
theorem testBit_V {l : List Int} (h : W l) (i : Nat) : (V l).testBit i = decide ((l.getD (i / 32) 0).toNat / 2 ^ (i % 32) % 2 = 1) := by
  rw [Nat.testBit_eq_decide_div_mod_eq]
  congr 1
  have e : V l / 2 ^ i = V (l.drop (i / 32)) / 2 ^ (i % 32) := by
    rw [← V_div l h, pow32, Nat.div_div_eq_div_mul, ← Nat.pow_add, show 32 * (i / 32) + i % 32 = i by omega]
  rw [e]
  by_cases hi : i / 32 < l.length
  · rw [V_drop_cons l hi]
    have e2 : (4294967296 : Nat) = 2 ^ (i % 32) * (2 * 2 ^ (31 - i % 32)) := by
      rw [← Nat.mul_assoc, ← Nat.pow_succ, ← Nat.pow_add, show (i % 32).succ + (31 - i % 32) = 32 by omega]
    rw [e2, Nat.mul_assoc, Nat.add_mul_div_left _ _ (Nat.two_pow_pos _), Nat.mul_assoc, Nat.add_mul_mod_self_left]
  · rw [List.drop_eq_nil_of_le (by omega), V_nil, List.getD_eq_getElem?_getD, List.getElem?_eq_none (by omega)]
    simp
theorem Bit_spec {l : List Int} (hG : G l) (i : Nat) (hi : i < 9223372036854775808) : nat_Bit.f l (i : Int) = some ((V l).testBit i) := by
  have hl := hG.2
  unfold nat_Bit.f
  have e1 : Int.tdiv (i : Int) 32 = ((i / 32 : Nat) : Int) := by rw [Int.tdiv_eq_ediv_of_nonneg (by omega)]; omega
  have e2 : Int.tmod (i : Int) 32 = ((i % 32 : Nat) : Int) := by rw [Int.tmod_eq_emod_of_nonneg (by omega)]; omega
  rw [if_pos (by omega), e1, w64 (by omega) (by omega), e2, rd_nat, testBit_V hG.1]
  by_cases h : i / 32 < l.length
  · rw [if_pos (by omega), if_pos (by omega), if_pos (by omega)]
    have g := W_get hG.1 (i / 32)
    obtain ⟨t, ht⟩ := Int.eq_ofNat_of_zero_le g.1
    rw [ht] at g ⊢
    congr 1
    have e3 : shr .u32 ((t : Nat) : Int) ((i % 32 : Nat) : Int) = ((t / 2 ^ (i % 32) : Nat) : Int) := by
      unfold shr
      rw [Int.toNat_natCast, Nat.min_eq_left (by show i % 32 ≤ 32; omega)]
      rw [Int.natCast_ediv, Int.natCast_pow]
      rfl
    rw [e3, show (1 : Int) = ((1 : Nat) : Int) from rfl, u32_and_nat _ _ (Nat.lt_of_le_of_lt (Nat.div_le_self _ _) (by omega)) (by decide), Nat.and_one_is_mod, Int.toNat_natCast]
    generalize t / 2 ^ (i % 32) % 2 = q
    by_cases hq : q = 1
    · subst hq; rfl
    · rw [decide_eq_false hq, beq_eq_false_iff_ne]
      omega
  · rw [if_neg (by omega), List.getD_eq_getElem?_getD, List.getElem?_eq_none (by omega)]
    simp
end Go.Proofs.YtjgmmaeafodpmaaGreatDoor.Lib
set_option linter.unusedVariables false
set_option linter.unusedSimpArgs false
namespace Go.Proofs.YtjgmmaeafodpmaaGreatDoor.Lib
open Go.RowKit Go.Proofs.YtjgmmaeafodpmaaGreatDoorW.PrintWords Go.Proofs.YtjgmmaeafodpmaaGreatDoorW.PrintMore Go.Proofs.YtjgmmaeafodpmaaGreatDoor.P
theorem drop_getD (l : List Int) {i : Nat} (h : i < l.length) : l.drop i = l.getD i 0 :: l.drop (i + 1) := by
  rw [List.drop_eq_getElem_cons h, List.getD_eq_getElem?_getD, List.getElem?_eq_getElem h]
  rfl
theorem keep_spec {a b : List Int} (ha : a.length ≤ 1000000) : Ev (fun k => steelyardkeep_Nat.f k a b) (decide (a = b)) := by
  unfold steelyardkeep_Nat.f
  by_cases hl : a.length = b.length
  · have key : ∀ d i : Nat, a.length = i + d → Ev (fun k => steelyardkeep_Nat.l0 k a b (i : Int)) (decide (a.drop i = b.drop i)) := by
      intro d
      induction d with
      | zero =>
        intro i hi
        refine Ev.succ ?_
        simp only [steelyardkeep_Nat.l0]
        refine Ev.ifn (by omega) ?_
        rw [List.drop_eq_nil_of_le (by omega), List.drop_eq_nil_of_le (by omega)]
        exact Ev.now _
      | succ d ih =>
        intro i hi
        refine Ev.succ ?_
        simp only [steelyardkeep_Nat.l0, rd_nat]
        refine Ev.ifp (by omega) (Ev.ifp (by omega) (Ev.ifp (by omega) ?_))
        rw [drop_getD a (by omega), drop_getD b (by omega)]
        by_cases h : a.getD i 0 = b.getD i 0
        · refine Ev.ifp h ?_
          rw [w64_succ (by omega)]
          refine Ev.eq (ih (i + 1) (by omega)) (decide_eq_decide.2 ?_)
          rw [h]
          exact ⟨fun e => by rw [e], fun e => (List.cons.inj e).2⟩
        · refine Ev.ifn h ?_
          rw [decide_eq_false (fun e => h (List.cons.inj e).1)]
          exact Ev.now _
    exact Ev.ifp (by omega) (key a.length 0 (by omega))
  · refine Ev.ifn (by omega) ?_
    rw [decide_eq_false (fun e => hl (by rw [e]))]
    exact Ev.now _
end Go.Proofs.YtjgmmaeafodpmaaGreatDoor.Lib
set_option linter.unusedVariables false
set_option linter.unusedSimpArgs false
namespace Go.Proofs.YtjgmmaeafodpmaaGreatDoor.Lib
open Go.RowKit Go.Proofs.YtjgmmaeafodpmaaGreatDoorW.PrintWords Go.Proofs.YtjgmmaeafodpmaaGreatDoorW.PrintMore Go.Proofs.YtjgmmaeafodpmaaGreatDoor.P
theorem Of_inner {b r0 : List Int} (hb : W b) (hr : W r0) {x : Nat} (hx : x < 4294967296) (hlen : r0.length = b.length + 1) (hl : b.length ≤ 1000000) (out a : List Int) (na : Int) {i : Nat} (hi : i ≤ out.length) {R : List Int}
    (next : ∀ row' : List Int, row'.length = r0.length → W row' → (∃ c', V row' + 4294967296 ^ (b.length + 1) * c' = V r0 + x * V b) → Ev (fun k => mul_Of.l0 k b (cpy out i row') a na (wrap64 ((i : Int) + 1))) R) :
    ∀ d j (row : List Int) (c : Nat), b.length + 1 = j + d → row.length = r0.length → W row → c < 4294967296 → (∀ t, j ≤ t → row.getD t 0 = r0.getD t 0) →
      V (row.take j) + 4294967296 ^ j * c = V (r0.take j) + x * V (b.take j) →
      Ev (fun k => mul_Of.l1 k b out (i : Int) (x : Int) row (c : Int) a na (i : Int) ((b.length + 1 : Nat) : Int) (j : Int)) R := by
  intro d
  induction d with
  | zero =>
    intro j row c hj hrl hw hc hs hv
    refine Ev.succ ?_
    simp only [mul_Of.l1]
    refine Ev.ifn (by omega) (Ev.ifp (by omega) (Ev.ifp (by omega) ?_))
    rw [Int.toNat_natCast]
    refine next row hrl hw ⟨c, ?_⟩
    rw [V_take_all row (by omega), V_take_all r0 (by omega), V_take_all b (by omega)] at hv
    rw [← hv, show b.length + 1 = j by omega]
  | succ d ih =>
    intro j row c hj hrl hw hc hs hv
    refine Ev.succ ?_
    simp only [mul_Of.l1, rd_nat, hs j (Nat.le_refl _)]
    refine Ev.ifp (by omega) ?_
    have g1 := W_get hb j
    have g2 := W_get hr j
    obtain ⟨t, ht⟩ := Int.eq_ofNat_of_zero_le g1.1
    obtain ⟨r, hrr⟩ := Int.eq_ofNat_of_zero_le g2.1
    have hp : x * t ≤ 4294967295 * 4294967295 := Nat.mul_le_mul (by omega) (by omega)
    have fin : Ev (fun k => mul_Of.l1 k b out (i : Int) (x : Int) (row.set j (((c + x * t + r) % 4294967296 : Nat) : Int)) (((c + x * t + r) / 4294967296 : Nat) : Int) a na (i : Int) ((b.length + 1 : Nat) : Int) ((j + 1 : Nat) : Int)) R := by
      refine ih (j + 1) _ _ (by omega) (by rw [List.length_set]; exact hrl) (W_set hw j (by omega) (by omega)) (by omega) (fun t' ht' => by rw [get_set_ne _ _ (by omega)]; exact hs t' (by omega)) ?_
      rw [V_take_set _ _ _ (by omega), V_take_succ, V_take_succ, Nat.pow_succ, ht, hrr, Int.toNat_natCast, Int.toNat_natCast, Int.toNat_natCast]
      generalize 4294967296 ^ j = p at *
      have e2 : 4294967296 * ((c + x * t + r) / 4294967296) + (c + x * t + r) % 4294967296 = c + x * t + r := Nat.div_add_mod _ _
      have e3 := congrArg (p * ·) e2
      simp only [Nat.mul_add] at e3
      rw [Nat.mul_assoc p 4294967296, Nat.mul_add x, Nat.mul_left_comm x p t]
      omega
    by_cases hjb : j < b.length
    · refine Ev.ifp (by omega) (Ev.ifp (by omega) (Ev.ifp (by omega) ?_))
      rw [ht, hrr, wu64 (x := (x : Int)) (by omega) (by omega), wu64 (x := (t : Int)) (by omega) (by omega), ← Int.natCast_mul, wu64 (x := ((x * t : Nat) : Int)) (by omega) (by omega),
        ← Int.natCast_add, wu64 (x := ((c + x * t : Nat) : Int)) (by omega) (by omega), wu64 (x := (r : Int)) (by omega) (by omega), ← Int.natCast_add, wu64 (x := ((c + x * t + r : Nat) : Int)) (by omega) (by omega),
        w64_succ (by omega), Int.toNat_natCast]
      exact fin
    · refine Ev.ifn (by omega) (Ev.ifp (by omega) (Ev.ifp (by omega) ?_))
      have ht0 : t = 0 := by
        rw [List.getD_eq_getElem?_getD, List.getElem?_eq_none (by omega)] at ht
        simp at ht
        omega
      rw [hrr, wu64 (x := (r : Int)) (by omega) (by omega), ← Int.natCast_add, wu64 (x := ((c + r : Nat) : Int)) (by omega) (by omega), w64_succ (by omega), Int.toNat_natCast]
      rw [ht0, Nat.mul_zero, Nat.add_zero] at fin
      exact fin
theorem cpy_parts (out row : List Int) (i : Nat) (h : i + row.length ≤ out.length) : cpy out i row = out.take i ++ (row ++ out.drop (i + row.length)) := by
  unfold cpy
  rw [show row.take (out.length - i) = row from List.take_of_length_le (by omega)]
theorem Of_outer {a b : List Int} (ha : W a) (hb : W b) (hl : a.length + b.length ≤ 1000000) : ∀ d i (out : List Int), a.length = i + d → out.length = a.length + b.length → W out → V out = V (a.take i) * V b →
    Ev (fun k => mul_Of.l0 k b out a (a.length : Int) (i : Int)) (L (V a * V b)) := by
  intro d
  induction d with
  | zero =>
    intro i out hi ho hw hv
    refine Ev.succ ?_
    simp only [mul_Of.l0]
    refine Ev.ifn (by omega) (Ev.bind (Trim_spec ⟨hw, by omega⟩) ?_)
    rw [hv, V_take_all a (by omega)]
    exact Ev.now _
  | succ d ih =>
    intro i out hi ho hw hv
    refine Ev.succ ?_
    simp only [mul_Of.l0, rd_nat, Option.bind_some]
    have g := W_get ha i
    obtain ⟨x, hx⟩ := Int.eq_ofNat_of_zero_le g.1
    rw [w64_succ (by omega), Int.toNat_natCast, Int.toNat_natCast, hx]
    refine Ev.ifp (by omega) (Ev.ifp (by omega) (Ev.ifp (by omega) (Ev.ifp (by omega) (Ev.ifp (by omega) (Ev.ifp (by omega) ?_)))))
    rw [List.length_replicate]
    have hlen : (cpy (List.replicate (b.length + 1) 0) 0 (out.drop i)).length = b.length + 1 := by rw [cpy_length _ _ _ (by omega), List.length_replicate]
    have hr0 : cpy (List.replicate (b.length + 1) 0) 0 (out.drop i) = (out.drop i).take (b.length + 1) := cpy_take _ _ (by rw [List.length_drop]; omega)
    have hwr : W (cpy (List.replicate (b.length + 1) 0) 0 (out.drop i)) := by rw [hr0]; exact W_take (W_drop hw _) _
    refine Of_inner hb hwr (by omega) hlen (by omega) out a (a.length : Int) (by omega) (fun row hrl hrw hrv => ?_) (b.length + 1) 0 _ 0 (by omega) rfl hwr (by omega) (fun _ _ => rfl) (by simp [V])
    rw [hlen] at hrl
    obtain ⟨c', hc'⟩ := hrv
    rw [hr0] at hc'
    -- what lies in the row was below the number's own bound: no carry is left
    have hvo : V out < 4294967296 ^ (i + b.length) := by
      rw [hv]; exact mul_lt (V_take_lt ha i) (V_lt hb)
    have hdrop : V (out.drop i) < 4294967296 ^ b.length := by
      rw [← V_div out hw i]
      exact (Nat.div_lt_iff_lt_mul (pow_pos i)).2 (by rw [← Nat.pow_add, Nat.add_comm]; exact hvo)
    have htk : V ((out.drop i).take (b.length + 1)) = V (out.drop i) := by
      refine V_take_ge (W_drop hw i) ?_
      have := L_len_le hdrop
      have e : U (out.drop i) = (L (V (out.drop i))).length := rfl
      omega
    have htl : V (out.drop (i + (b.length + 1))) = 0 := by
      rw [← V_div out hw]
      exact Nat.div_eq_of_lt (lt_more hvo (by omega))
    rw [htk] at hc'
    have hxb : x * V b ≤ 4294967295 * V b := Nat.mul_le_mul_right _ (by omega)
    have hc0 : c' = 0 := by
      rcases Nat.eq_zero_or_pos c' with h | h
      · exact h
      · have h1 := Nat.mul_le_mul_left (4294967296 ^ (b.length + 1)) h
        have h2 := V_lt hb
        rw [Nat.pow_succ] at h1 hc'
        omega
    rw [hc0, Nat.mul_zero, Nat.add_zero] at hc'
    have hcp := cpy_parts out row i (by omega)
    rw [w64_succ (by omega)]
    refine ih (i + 1) _ (by omega) (by rw [cpy_length _ _ _ (by omega)]; exact ho) ?_ ?_
    · rw [hcp, W_app, W_app]
      exact ⟨W_take hw _, hrw, W_drop hw _⟩
    · rw [hcp, V_app, V_app, hrl, htl, Nat.mul_zero, Nat.add_zero, List.length_take, Nat.min_eq_left (by omega), hc', V_take_succ, hx, Int.toNat_natCast]
      have e1 := V_take_add out i
      rw [Nat.min_eq_left (by omega), hv] at e1
      rw [Nat.mul_add, ← Nat.add_assoc, ← e1, Nat.add_mul, Nat.mul_assoc]
theorem MulOf_spec {a b : List Int} (ha : W a) (hb : W b) (hl : a.length + b.length ≤ 1000000) : Ev (fun k => mul_Of.f k a b) (L (V a * V b)) := by
  have hUa := U_le ha
  have hUb := U_le hb
  have ea : (L (V a)).length = U a := rfl
  have eb : (L (V b)).length = U b := rfl
  unfold mul_Of.f
  refine Ev.bind (Trim_spec ⟨ha, by omega⟩) (Ev.bind (Trim_spec ⟨hb, by omega⟩) ?_)
  rw [← Int.natCast_add, w64 (by omega) (by omega), Int.toNat_natCast]
  refine Ev.ifp (by omega) (Ev.ifp (by omega) ?_)
  have := Of_outer (W_L (V a)) (W_L (V b)) (by omega) (L (V a)).length 0 (List.replicate ((L (V a)).length + (L (V b)).length) 0) (by omega) (by rw [List.length_replicate]) (W_rep _) (by rw [V_rep]; simp [V])
  rw [V_L, V_L] at this
  exact this
theorem W_one {v : Int} (h0 : 0 ≤ v) (h1 : v < 4294967296) : W [v] := by rw [W_cons]; exact ⟨⟨h0, h1⟩, W_nil⟩
theorem V_one (v : Int) : V [v] = v.toNat := by rw [V_cons, V_nil]; omega
theorem MulSmall_spec {a : List Int} (ha : W a) (hl : a.length < 1000000) {v : Int} (h0 : 0 ≤ v) (h1 : v < 4294967296) : Ev (fun k => mul_Small.f k a v) (L (V a * v.toNat)) := by
  unfold mul_Small.f
  refine Ev.bind (MulOf_spec ha (W_one h0 h1) (by simp; omega)) ?_
  rw [V_one]
  exact Ev.now _
theorem two_split (n : Nat) : 4294967296 ^ (n / 32) * 2 ^ (n % 32) = 2 ^ n := by
  rw [pow32, ← Nat.pow_add, show 32 * (n / 32) + n % 32 = n by omega]
theorem tdiv32 (n : Nat) : Int.tdiv (n : Int) 32 = ((n / 32 : Nat) : Int) := by rw [Int.tdiv_eq_ediv_of_nonneg (by omega)]; omega
theorem tmod32 (n : Nat) : Int.tmod (n : Int) 32 = ((n % 32 : Nat) : Int) := by rw [Int.tmod_eq_emod_of_nonneg (by omega)]; omega
theorem pow_lt_32 {s : Nat} (h : s < 32) : 2 ^ s ≤ 2147483648 := by
  have : 2 ^ s ≤ 2 ^ 31 := Nat.pow_le_pow_right (by omega) (by omega)
  exact this
theorem shl_one {s : Nat} (h : s < 32) : shl .u32 1 (s : Int) = ((2 ^ s : Nat) : Int) := by
  have := pow_lt_32 h
  unfold shl
  rw [Int.toNat_natCast, Nat.min_eq_left (by show s ≤ 32; omega), Int.one_mul, IntKind.wrap_u32]
  rw [show ((2 : Int) ^ s) = ((2 ^ s : Nat) : Int) by rw [Int.natCast_pow]; rfl]
  generalize 2 ^ s = q at *
  omega
theorem Up_spec {a : List Int} (ha : W a) (hl : a.length ≤ 900000) {n : Nat} (hn : n ≤ 1000000) : Ev (fun k => mul_up.f k a (n : Int)) (L (V a * 2 ^ n)) := by
  unfold mul_up.f
  rw [tdiv32, tmod32, w64 (x := ((n / 32 : Nat) : Int)) (by omega) (by omega), ← Int.natCast_add, w64 (x := ((n / 32 + a.length : Nat) : Int)) (by omega) (by omega), w64_succ (by omega), Int.toNat_natCast, Int.toNat_natCast]
  refine Ev.ifp (by omega) (Ev.ifp (by omega) ?_)
  simp only [Option.bind_some, List.length_replicate]
  refine Ev.ifp (by omega) (Ev.ifp (by omega) (Ev.ifp (by omega) ?_))
  have hp := pow_lt_32 (s := n % 32) (by omega)
  have hsp := two_split n
  rw [shl_one (by omega)]
  generalize 2 ^ (n % 32) = q at *
  have hcp : cpy (List.replicate (n / 32 + a.length + 1) 0) (n / 32) a = List.replicate (n / 32) 0 ++ (a ++ [0]) := by
    rw [cpy_parts _ _ _ (by rw [List.length_replicate]; omega), List.take_replicate, List.drop_replicate, Nat.min_eq_left (by omega), show n / 32 + a.length + 1 - (n / 32 + a.length) = 1 by omega]
    rfl
  have hW : W (cpy (List.replicate (n / 32 + a.length + 1) 0) (n / 32) a) := by
    rw [hcp, W_app, W_app]
    exact ⟨W_rep _, ha, W_one (by omega) (by omega)⟩
  refine Ev.bind (MulSmall_spec hW (by rw [cpy_length _ _ _ (by rw [List.length_replicate]; omega), List.length_replicate]; omega) (by omega) (by omega)) ?_
  rw [hcp, V_app, V_app, V_rep, List.length_replicate, Nat.zero_add, V_one, Int.toNat_natCast, ← hsp]
  rw [show (0 : Int).toNat = 0 from rfl, Nat.mul_zero, Nat.add_zero, Nat.mul_comm (4294967296 ^ (n / 32)) (V a), Nat.mul_assoc]
  exact Ev.now _
theorem or_high (h l : Nat) (hh : h < 4294967296) (hl : l < 4294967296) : Go.bits .or .u64 ((h : Int) * 4294967296) (l : Int) = ((h * 4294967296 + l : Nat) : Int) := by
  rw [show ((h : Int) * 4294967296) = ((h * 4294967296 : Nat) : Int) by omega, u64_or_nat _ _ (by omega) (by omega)]
  congr 1
  have := Nat.two_pow_add_eq_or_of_lt (i := 32) (b := l) (by omega) h
  rw [show (2 : Nat) ^ 32 = 4294967296 from rfl] at this
  rw [Nat.mul_comm h]
  exact this.symm
theorem shr_u64 (x s : Nat) (hs : s < 32) : shr .u64 (x : Int) (s : Int) = ((x / 2 ^ s : Nat) : Int) := by
  unfold shr
  rw [Int.toNat_natCast, Nat.min_eq_left (by show s ≤ 64; omega), Int.natCast_ediv, Int.natCast_pow]
  rfl
theorem down_limb {t : List Int} (ht : W t) (i s : Nat) (hs : s < 32) : V t / 2 ^ s / 4294967296 ^ i % 4294967296 = ((t.getD (i + 1) 0).toNat * 4294967296 + (t.getD i 0).toNat) / 2 ^ s % 4294967296 := by
  rw [Nat.div_div_eq_div_mul, Nat.mul_comm, ← Nat.div_div_eq_div_mul, V_div t ht i]
  have hpow : (4294967296 : Nat) = 2 ^ s * 2 ^ (32 - s) := by rw [← Nat.pow_add, show s + (32 - s) = 32 by omega]
  have key : ∀ x y z : Nat, (x + 4294967296 * (y + 4294967296 * z)) / 2 ^ s % 4294967296 = (y * 4294967296 + x) / 2 ^ s % 4294967296 := by
    intro x y z
    have e : x + 4294967296 * (y + 4294967296 * z) = (y * 4294967296 + x) + 2 ^ s * (2 ^ (32 - s) * z * 4294967296) := by
      have e2 : 2 ^ s * (2 ^ (32 - s) * z * 4294967296) = 4294967296 * (z * 4294967296) := by
        rw [← Nat.mul_assoc, ← Nat.mul_assoc, ← hpow, Nat.mul_assoc]
      rw [e2, Nat.mul_add, Nat.mul_comm y, Nat.mul_comm z]
      omega
    rw [e, Nat.add_mul_div_left _ _ (Nat.two_pow_pos _), Nat.add_mul_mod_self_right]
  by_cases h1 : i < t.length
  · rw [V_drop_cons t h1]
    by_cases h2 : i + 1 < t.length
    · rw [V_drop_cons t h2]; exact key _ _ _
    · rw [List.drop_eq_nil_of_le (by omega), V_nil]
      rw [show t.getD (i + 1) 0 = 0 by rw [List.getD_eq_getElem?_getD, List.getElem?_eq_none (by omega)]; rfl]
      simp
  · rw [List.drop_eq_nil_of_le (by omega), V_nil, show t.getD (i + 1) 0 = 0 by rw [List.getD_eq_getElem?_getD, List.getElem?_eq_none (by omega)]; rfl, show t.getD i 0 = 0 by rw [List.getD_eq_getElem?_getD, List.getElem?_eq_none (by omega)]; rfl]
    simp
theorem Down_loop {t : List Int} (ht : W t) (hl : t.length ≤ 1000000) {n : Nat} (hn : n < 4611686018427387904) : ∀ d i (out : List Int), t.length = i + d → out.length = t.length → W out → (∀ j, i ≤ j → out.getD j 0 = t.getD j 0) →
    V (out.take i) = V t / 2 ^ (n % 32) % 4294967296 ^ i → Ev (fun k => mul_down.l0 k (n : Int) out (t.length : Int) (i : Int)) (L (V t / 2 ^ (n % 32))) := by
  intro d
  induction d with
  | zero =>
    intro i out hi ho hw hs hv
    refine Ev.succ ?_
    simp only [mul_down.l0]
    refine Ev.ifn (by omega) (Ev.bind (Trim_spec ⟨hw, by omega⟩) ?_)
    rw [V_take_all out (by omega)] at hv
    rw [hv, Nat.mod_eq_of_lt]
    · exact Ev.now _
    · refine Nat.lt_of_le_of_lt (Nat.div_le_self _ _) (lt_more (V_lt ht) (by omega))
  | succ d ih =>
    intro i out hi ho hw hs hv
    refine Ev.succ ?_
    simp only [mul_down.l0, tmod32]
    rw [w64_succ (by omega)]
    have g1 := W_get ht i
    have g2 := W_get ht (i + 1)
    obtain ⟨x, hx⟩ := Int.eq_ofNat_of_zero_le g1.1
    obtain ⟨y, hy⟩ := Int.eq_ofNat_of_zero_le g2.1
    have fin : Ev (fun k => mul_down.l0 k (n : Int) (out.set i (((y * 4294967296 + x) / 2 ^ (n % 32) % 4294967296 : Nat) : Int)) (t.length : Int) ((i + 1 : Nat) : Int)) (L (V t / 2 ^ (n % 32))) := by
      refine ih (i + 1) _ (by omega) (by rw [List.length_set]; exact ho) (W_set hw i (by omega) (by omega)) (fun j hj => by rw [get_set_ne _ _ (by omega)]; exact hs j (by omega)) ?_
      rw [V_take_set _ _ _ (by omega), hv, Nat.mod_pow_succ, down_limb ht i _ (by omega), hx, hy, Int.toNat_natCast, Int.toNat_natCast, Int.toNat_natCast]
    refine Ev.ifp (by omega) ?_
    simp only [rd_nat, hs i (Nat.le_refl _), hs (i + 1) (by omega), hx, hy]
    by_cases h2 : i + 1 < t.length
    · refine Ev.ifp (by omega) (Ev.ifp (by omega) (Ev.ifp (by omega) (Ev.ifp (by omega) (Ev.ifp (by omega) ?_))))
      rw [wu64 (x := (y : Int)) (by omega) (by omega), wu64 (x := (x : Int)) (by omega) (by omega), wu64 (x := (y : Int) * 4294967296) (by omega) (by omega), or_high y x (by omega) (by omega), shr_u64 _ _ (by omega),
        show (4294967296 : Int) = ((4294967296 : Nat) : Int) from rfl, ← Int.natCast_emod, Int.toNat_natCast]
      exact fin
    · refine Ev.ifn (by omega) (Ev.ifp (by omega) (Ev.ifp (by omega) (Ev.ifp (by omega) ?_)))
      have hy0 : y = 0 := by
        rw [List.getD_eq_getElem?_getD, List.getElem?_eq_none (by omega)] at hy
        simp at hy
        omega
      have := or_high 0 x (by omega) (by omega)
      rw [show ((0 : Nat) : Int) * 4294967296 = 0 by rfl] at this
      rw [hy0] at fin
      rw [wu64 (x := (x : Int)) (by omega) (by omega), this, shr_u64 _ _ (by omega),
        show (4294967296 : Int) = ((4294967296 : Nat) : Int) from rfl, ← Int.natCast_emod, Int.toNat_natCast]
      exact fin
theorem Down_spec {a : List Int} (ha : W a) (hl : a.length ≤ 1000000) {n : Nat} (hn : n < 4611686018427387904) : Ev (fun k => mul_down.f k a (n : Int)) (L (V a / 2 ^ n)) := by
  unfold mul_down.f
  rw [tdiv32, w64 (by omega) (by omega), Int.toNat_natCast]
  have e : V a / 2 ^ n = V (a.drop (n / 32)) / 2 ^ (n % 32) := by
    rw [← V_div a ha, pow32, Nat.div_div_eq_div_mul, ← Nat.pow_add, show 32 * (n / 32) + n % 32 = n by omega]
  rw [e]
  by_cases h : a.length ≤ n / 32
  · refine Ev.ifp (by omega) ?_
    rw [List.drop_eq_nil_of_le h, V_nil, Nat.zero_div, L_zero]
    exact Ev.now _
  · have hd : (a.drop (n / 32)).length ≤ 1000000 := by rw [List.length_drop]; omega
    refine Ev.ifn (by omega) (Ev.ifp (by omega) (Ev.ifp (by omega) (Ev.bind (Trim_spec ⟨W_drop ha _, hd⟩) ?_)))
    have hU := U_le (W_drop ha (n / 32))
    have eU : (L (V (a.drop (n / 32)))).length = U (a.drop (n / 32)) := rfl
    have := Down_loop (W_L (V (a.drop (n / 32)))) (by omega) hn _ 0 (L (V (a.drop (n / 32)))) (Nat.zero_add _).symm rfl (W_L _) (fun _ _ => rfl) (by rw [List.take_zero, V_nil, Nat.pow_zero, Nat.mod_one])
    rw [V_L] at this
    exact this
def shf (x : Nat) (n : Int) : Nat := if n ≥ 0 then x * 2 ^ (min n.toNat 8192) else if n < -8192 then 0 else x / 2 ^ (-n).toNat
theorem Shift_spec {a : List Int} (ha : W a) (hl : a.length ≤ 900000) {n : Int} (h0 : -9223372036854775808 ≤ n) (h1 : n < 9223372036854775808) : Ev (fun k => mul_Shift.f k a n) (L (shf (V a) n)) := by
  unfold mul_Shift.f shf
  by_cases c : n ≥ 0
  · rw [if_pos c]
    refine Ev.ifp c ?_
    obtain ⟨m, rfl⟩ := Int.eq_ofNat_of_zero_le c
    rw [show (8192 : Int) = ((8192 : Nat) : Int) from rfl, mn_nat, Int.toNat_natCast]
    exact Ev.bind (Up_spec ha hl (by omega)) (Ev.now _)
  · rw [if_neg c]
    refine Ev.ifn c ?_
    by_cases c2 : n < -8192
    · rw [if_pos c2, L_zero]
      exact Ev.ifp c2 (Ev.now _)
    · rw [if_neg c2]
      refine Ev.ifn c2 ?_
      obtain ⟨m, hm⟩ := Int.eq_ofNat_of_zero_le (show 0 ≤ -n by omega)
      rw [w64 (by omega) (by omega), hm, Int.toNat_natCast]
      exact Ev.bind (Down_spec ha (by omega) (by omega)) (Ev.now _)
def powR (A n : Nat) : List Int × Bool := if A ^ n < 4294967296 ^ 256 then (L (A ^ n), true) else ([], false)
end Go.Proofs.YtjgmmaeafodpmaaGreatDoor.Lib
set_option linter.unusedVariables false
set_option linter.unusedSimpArgs false
namespace Go.Proofs.YtjgmmaeafodpmaaGreatDoor.Lib
open Go.RowKit Go.Proofs.YtjgmmaeafodpmaaGreatDoorW.PrintWords Go.Proofs.YtjgmmaeafodpmaaGreatDoorW.PrintMore Go.Proofs.YtjgmmaeafodpmaaGreatDoor.P
def Bp (m : Nat) : Nat := 4294967296 ^ m
def S (m : Nat) (l : List Int) : Prop := W l ∧ l.length ≤ m
section
variable {m p n x y : Nat} {l a b : List Int}
theorem S.v (h : S m l) : V l < Bp m := G_V h.1 h.2
theorem S.g (h : S m l) (hm : m ≤ 1000000) : G l := ⟨h.1, Nat.le_trans h.2 hm⟩
theorem S.up (h : S m l) (hm : m ≤ p) : S p l := ⟨h.1, Nat.le_trans h.2 hm⟩
theorem S_L (h : n < Bp m) : S m (L n) := ⟨W_L n, L_len_le h⟩
theorem S_nil : S m [] := ⟨W_nil, by simp⟩
theorem Bp_le (h : m ≤ n) : Bp m ≤ Bp n := pow_le h
theorem Bp_pos : 0 < Bp m := pow_pos m
theorem lt_up (h : x < Bp m) (k : m ≤ n) : x < Bp n := Nat.lt_of_lt_of_le h (Bp_le k)
theorem lt_add (h : x < Bp m) (k : y < Bp m) (hp : m < p) : x + y < Bp p := by
  refine lt_up (m := m + 1) ?_ (by omega)
  have e : Bp (m + 1) = Bp m * 4294967296 := Nat.pow_succ _ _
  rw [e]
  generalize Bp m = q at *
  omega
theorem lt_mul (h : x < Bp m) (k : y < Bp n) (hp : m + n ≤ p) : x * y < Bp p := lt_up (m := m + n) (mul_lt h k) hp
theorem lt_le (h : y < Bp m) (k : x ≤ y) : x < Bp m := Nat.lt_of_le_of_lt k h
theorem lt_num (h : x < 18446744073709551616) (hm : 2 ≤ m) : x < Bp m := lt_up (m := 2) (by rw [show Bp 2 = 18446744073709551616 from rfl]; exact h) hm
theorem bl_Bp (h : x < Bp m) : bl x ≤ 32 * m := bl_le_iff.2 (by rw [← pow32]; exact h)
theorem bl_S (s : S m l) : bl (V l) ≤ 32 * m := bl_Bp s.v
theorem two_lt {i : Nat} (h : i < 32 * m) : 2 ^ i < Bp m := by
  unfold Bp
  rw [pow32]
  exact Nat.pow_lt_pow_right (by omega) h
theorem Add_to (sa : S m a) (sb : S m b) (hm : m < 1000000) (h : V a + V b = n) : Ev (fun k => nat_Add.f k a b) (L n) := h ▸ Add_spec (sa.g (by omega)) (sb.g (by omega)) (Nat.lt_of_le_of_lt sa.2 hm) (Nat.lt_of_le_of_lt sb.2 hm)
theorem Sub_to (sa : S m a) (sb : S m b) (hm : m ≤ 1000000) (h : V a = V b + n) : Ev (fun k => nat_Sub.f k a b) (L n, true) := by
  have := Sub_spec (sa.g hm) (sb.g hm)
  rw [if_neg (by omega), show V a - V b = n by omega] at this
  exact this
theorem Sub_no (sa : S m a) (sb : S m b) (hm : m ≤ 1000000) (h : V a < V b) : Ev (fun k => nat_Sub.f k a b) ([], false) := by
  have := Sub_spec (sa.g hm) (sb.g hm)
  rw [if_pos h] at this
  exact this
theorem Cmp_to (sa : S m a) (sb : S m b) (hm : m ≤ 1000000) {c : Int} (h : cmpI (V a) (V b) = c) : Ev (fun k => nat_Cmp.f k a b) c := h ▸ Cmp_spec (sa.g hm) (sb.g hm)
theorem Bit_to (sa : S m a) (hm : m ≤ 1000000) (h : V a = n) (i : Nat) (hi : i < 9223372036854775808) : nat_Bit.f a (i : Int) = some (n.testBit i) := h ▸ Bit_spec (sa.g hm) i hi
theorem Trim_to (sa : S m a) (hm : m ≤ 1000000) (h : V a = n) : Ev (fun k => nat_Trim.f k a) (L n) := h ▸ Trim_spec (sa.g hm)
theorem Of_to {v : Int} (h0 : 0 ≤ v) (h1 : v < 18446744073709551616) (h : v.toNat = n) : Ev (fun k => nat_Of.f k v) (L n) := h ▸ Of_spec h0 h1
theorem keep_to (sa : S m a) (hm : m ≤ 1000000) (h : a = b) : Ev (fun k => steelyardkeep_Nat.f k a b) true := by
  have := keep_spec (b := b) (Nat.le_trans sa.2 hm)
  rw [decide_eq_true h] at this
  exact this
end
theorem cmpI_range (x y : Nat) : cmpI x y = -1 ∧ x < y ∨ cmpI x y = 0 ∧ x = y ∨ cmpI x y = 1 ∧ y < x := by
  unfold cmpI
  by_cases h : x < y
  · rw [if_pos h]; exact .inl ⟨rfl, h⟩
  · rw [if_neg h]
    by_cases h2 : y < x
    · rw [if_pos h2]; exact .inr (.inr ⟨rfl, h2⟩)
    · rw [if_neg h2]; exact .inr (.inl ⟨rfl, by omega⟩)
end Go.Proofs.YtjgmmaeafodpmaaGreatDoor.Lib
set_option linter.unusedVariables false
set_option linter.unusedSimpArgs false
namespace Go.Proofs.YtjgmmaeafodpmaaGreatDoor.Lib
open Go.RowKit Go.Proofs.YtjgmmaeafodpmaaGreatDoorW.PrintWords Go.Proofs.YtjgmmaeafodpmaaGreatDoorW.PrintMore Go.Proofs.YtjgmmaeafodpmaaGreatDoor.P
theorem rat_spec {l : List Int} (h : W l) (i : Nat) : steelyardref01_at.f l (i : Int) = some (l.getD i 0) := by
  unfold steelyardref01_at.f
  by_cases hi : i < l.length
  · have g := W_get h i
    rw [if_neg (by omega), if_pos (by omega), if_pos (by omega), rd_nat, wu64 (by omega) (by omega)]
  · rw [if_pos (by omega), List.getD_eq_getElem?_getD, List.getElem?_eq_none (by omega)]
    rfl
theorem rTrim_spec {l : List Int} (hG : G l) : Ev (fun k => steelyardref01_Trim.f k l) (L (V l)) := by
  obtain ⟨h, hl⟩ := hG
  have hU := U_le h
  have eU : (L (V l)).length = U l := rfl
  have key : ∀ d i : Nat, i = U l + d → i ≤ l.length → Ev (fun k => steelyardref01_Trim.l0 k l (i : Int)) (L (V l)) := by
    intro d
    induction d with
    | zero =>
      intro i hi hil
      obtain rfl : i = U l := by omega
      refine Ev.succ ?_
      simp only [steelyardref01_Trim.l0, Option.bind_some, List.nil_append, List.length_nil, Int.toNat_natCast, List.length_take, take_U h]
      by_cases h0 : U l = 0
      · exact Ev.ifn (by omega) (Ev.ifp (by omega) (Ev.ifp (by omega) (Ev.ifp (by omega) (Ev.now _))))
      · rw [w64_pred (by omega) (by omega), rd_nat]
        exact Ev.ifp (by omega) (Ev.ifp (by omega) (Ev.ifp (by omega) (Ev.ifn (U_last h h0) (Ev.ifp (by omega) (Ev.ifp (by omega) (Ev.ifp (by omega) (Ev.now _)))))))
    | succ d ih =>
      intro i hi hil
      refine Ev.succ ?_
      simp only [steelyardref01_Trim.l0]
      rw [w64_pred (by omega) (by omega), rd_nat]
      exact Ev.ifp (by omega) (Ev.ifp (by omega) (Ev.ifp (by omega) (Ev.ifp (tail_zero h (by omega)) (ih (i - 1) (by omega) (by omega)))))
  exact key (l.length - U l) l.length (by omega) (Nat.le_refl _)
section
variable {m p n x y : Nat} {l a b : List Int}
theorem rTrim_to (sa : S m a) (hm : m ≤ 1000000) (h : V a = n) : Ev (fun k => steelyardref01_Trim.f k a) (L n) := h ▸ rTrim_spec (sa.g hm)
theorem rOf_to {v : Int} (h0 : 0 ≤ v) (h1 : v < 18446744073709551616) (h : v.toNat = n) : Ev (fun k => steelyardref01_Of.f k v) (L n) := by
  have hW : W [v % 4294967296, (v / 4294967296) % 4294967296] := by
    rw [W_cons, W_cons]
    exact ⟨by omega, by omega, W_nil⟩
  have hV : V [v % 4294967296, (v / 4294967296) % 4294967296] = n := by
    simp only [V_cons, V_nil]
    omega
  unfold steelyardref01_Of.f
  exact Ev.bind (rTrim_to (m := 2) ⟨hW, by simp⟩ (by omega) hV) (Ev.now _)
theorem rCmp_to (sa : S m a) (sb : S m b) (hm : m ≤ 1000000) {c : Int} (h : cmpI (V a) (V b) = c) : Ev (fun k => steelyardref01_Cmp.f k a b) c := by
  have hla := sa.2
  have hlb := sb.2
  have key : ∀ i : Nat, i ≤ 1000000 → Ev (fun k => steelyardref01_Cmp.l0 k a b ((i : Int) - 1)) (cmpI (V (a.take i)) (V (b.take i))) := by
    intro i
    induction i with
    | zero =>
      intro _
      refine Ev.succ ?_
      simp only [steelyardref01_Cmp.l0]
      refine Ev.ifn (by omega) ?_
      simp only [List.take_zero, cmpI_eq]
      exact Ev.now _
    | succ i ih =>
      intro h1
      refine Ev.succ ?_
      simp only [steelyardref01_Cmp.l0]
      rw [show (((i + 1 : Nat) : Int) - 1) = (i : Int) by omega]
      simp only [rat_spec sa.1, rat_spec sb.1, Option.bind_some]
      refine Ev.ifp (by omega) ?_
      have g1 := W_get sa.1 i
      have g2 := W_get sb.1 i
      have t1 := V_take_lt sa.1 i
      have t2 := V_take_lt sb.1 i
      rw [V_take_succ, V_take_succ]
      by_cases c1 : a.getD i 0 < b.getD i 0
      · rw [cmpI_lt (cmp_step t1 t2 (by omega))]
        exact Ev.ifp c1 (Ev.now _)
      · refine Ev.ifn c1 ?_
        by_cases c2 : a.getD i 0 > b.getD i 0
        · rw [cmpI_gt (cmp_step t2 t1 (by omega))]
          exact Ev.ifp c2 (Ev.now _)
        · refine Ev.ifn c2 ?_
          rw [w64 (by omega) (by omega), show (a.getD i 0).toNat = (b.getD i 0).toNat by omega, cmpI_add]
          exact ih (by omega)
  unfold steelyardref01_Cmp.f
  rw [mx_nat, w64 (by omega) (by omega)]
  refine Ev.eq (key (max a.length b.length) (by omega)) ?_
  rw [V_take_all a (by omega), V_take_all b (by omega), h]
theorem W_snoc {l : List Int} {x : Int} (h : W l) (h0 : 0 ≤ x) (h1 : x < 4294967296) : W (l ++ [x]) := by
  rw [W_app, W_cons]
  exact ⟨h, ⟨h0, h1⟩, W_nil⟩
theorem V_snoc (l : List Int) (x : Int) : V (l ++ [x]) = V l + 4294967296 ^ l.length * x.toNat := by
  rw [V_app, V_cons, V_nil, Nat.mul_zero, Nat.add_zero]
theorem rAdd_to (sa : S m a) (sb : S m b) (hm : m < 1000000) (h : V a + V b = n) : Ev (fun k => steelyardref01_Add.f k a b) (L n) := by
  have hla := sa.2
  have hlb := sb.2
  -- from round i on, with what is left
  have key : ∀ d i (out : List Int) (c : Nat), m + 2 ≤ i + d → i ≤ m + 1 → out.length = i → W out → c ≤ 1 → V out + 4294967296 ^ i * c = V (a.take i) + V (b.take i) → (m + 1 = i → c = 0) →
      Ev (fun k => steelyardref01_Add.l0 k a b out (c : Int) (i : Int)) (L n) := by
    intro d
    induction d with
    | zero => intro i out c h1 h2; omega
    | succ d ih =>
      intro i out c h1 h2 ho hw hc hv hlast
      have stop : ¬ i < a.length → ¬ i < b.length → c = 0 → Ev (fun k => steelyardref01_Add.j1 k a b out (c : Int) (i : Int) false) (L n) := by
        intro n1 n2 n3
        refine Ev.succ ?_
        simp only [steelyardref01_Add.j1]
        refine Ev.ifn (by decide) (Ev.bind (rTrim_to (m := 1000000) ⟨hw, by omega⟩ (by omega) ?_) (Ev.now _))
        rw [V_take_all a (by omega), V_take_all b (by omega), n3, Nat.mul_zero, Nat.add_zero] at hv
        rw [hv, h]
      have more : i ≤ m → Ev (fun k => steelyardref01_Add.j1 k a b out (c : Int) (i : Int) true) (L n) := by
        intro him
        refine Ev.succ ?_
        simp only [steelyardref01_Add.j1, rat_spec sa.1, rat_spec sb.1, Option.bind_some]
        have g1 := W_get sa.1 i
        have g2 := W_get sb.1 i
        obtain ⟨x, hx⟩ := Int.eq_ofNat_of_zero_le g1.1
        obtain ⟨y, hy⟩ := Int.eq_ofNat_of_zero_le g2.1
        rw [hx, hy, ← Int.natCast_add, wu64 (x := ((x + y : Nat) : Int)) (by omega) (by omega), ← Int.natCast_add, wu64 (x := ((c + (x + y) : Nat) : Int)) (by omega) (by omega), w64_succ (by omega),
          show ((c + (x + y) : Nat) : Int) / 4294967296 = (((c + (x + y)) / 4294967296 : Nat) : Int) by omega, show ((c + (x + y) : Nat) : Int) % 4294967296 = (((c + (x + y)) % 4294967296 : Nat) : Int) by omega]
        refine Ev.ifp trivial (Ev.ifp (by omega) ?_)
        have hv' : V (out ++ [(((c + (x + y)) % 4294967296 : Nat) : Int)]) + 4294967296 ^ (i + 1) * ((c + (x + y)) / 4294967296) = V (a.take (i + 1)) + V (b.take (i + 1)) := by
          rw [V_snoc, V_take_succ, V_take_succ, ho, hx, hy, Int.toNat_natCast, Int.toNat_natCast, Int.toNat_natCast, Nat.pow_succ]
          generalize 4294967296 ^ i = q at *
          have e2 : 4294967296 * ((c + (x + y)) / 4294967296) + (c + (x + y)) % 4294967296 = c + (x + y) := Nat.div_add_mod _ _
          have e3 := congrArg (q * ·) e2
          simp only [Nat.mul_add] at e3
          rw [Nat.mul_assoc q 4294967296]
          omega
        refine ih (i + 1) _ _ (by omega) (by omega) (by rw [List.length_append, ho]; rfl) (W_snoc hw (by omega) (by omega)) (by omega) hv' (fun e => ?_)
        rw [V_take_all a (by omega), V_take_all b (by omega), h] at hv'
        refine carry_zero hv' ?_
        rw [← h, ← e]
        exact lt_add sa.v sb.v (by omega)
      refine Ev.succ ?_
      simp only [steelyardref01_Add.l0]
      by_cases n1 : i < a.length
      · exact Ev.ifp (by omega) (more (by omega))
      · refine Ev.ifn (by omega) ?_
        by_cases n2 : i < b.length
        · exact Ev.ifp (by omega) (more (by omega))
        · refine Ev.ifn (by omega) ?_
          by_cases n3 : c = 0
          · rw [decide_eq_false (by omega)]
            exact stop n1 n2 n3
          · rw [decide_eq_true (by omega)]
            exact more (by omega)
  unfold steelyardref01_Add.f
  exact key (m + 2) 0 [] 0 (by omega) (by omega) rfl W_nil (by omega) (by simp [V]) (fun _ => rfl)
theorem rSub_to (sa : S m a) (sb : S m b) (hm : m ≤ 1000000) (h : V a = V b + n) : Ev (fun k => steelyardref01_Sub.f k a b) (L n) := by
  have hla := sa.2
  have hUb : U b ≤ a.length := by
    have h1 := V_lt sa.1
    exact L_len_le (Nat.lt_of_le_of_lt (by omega) h1)
  have key : ∀ d i (out : List Int) (c : Nat), a.length = i + d → out.length = i → W out → c ≤ 1 → V out + V (b.take i) = V (a.take i) + 4294967296 ^ i * c →
      Ev (fun k => steelyardref01_Sub.l0 k a b out (c : Int) (i : Int)) (L n) := by
    intro d
    induction d with
    | zero =>
      intro i out c hi ho hw hc hv
      refine Ev.succ ?_
      simp only [steelyardref01_Sub.l0]
      refine Ev.ifn (by omega) (Ev.bind (rTrim_to (m := 1000000) ⟨hw, by omega⟩ (by omega) ?_) (Ev.now _))
      rw [V_take_all a (by omega), V_take_ge sb.1 (by omega)] at hv
      have hlt := V_lt hw
      rw [ho] at hlt
      rcases Nat.eq_zero_or_pos c with h0 | h0
      · rw [h0, Nat.mul_zero] at hv; omega
      · have := Nat.mul_le_mul_left (4294967296 ^ i) h0
        generalize 4294967296 ^ i = q at *
        omega
    | succ d ih =>
      intro i out c hi ho hw hc hv
      refine Ev.succ ?_
      simp only [steelyardref01_Sub.l0, rat_spec sa.1, rat_spec sb.1, Option.bind_some]
      have g1 := W_get sa.1 i
      have g2 := W_get sb.1 i
      obtain ⟨x, hx⟩ := Int.eq_ofNat_of_zero_le g1.1
      obtain ⟨y, hy⟩ := Int.eq_ofNat_of_zero_le g2.1
      rw [hx, hy, wu64 (x := (y : Int) + (c : Int)) (by omega) (by omega), wu64 (x := (x : Int) + 4294967296) (by omega) (by omega), w64_succ (by omega)]
      refine Ev.ifp (by omega) ?_
      have st : ∀ (z c' : Nat), z < 4294967296 → c' ≤ 1 → z + y + c = x + 4294967296 * c' → V (out ++ [((z : Nat) : Int)]) + V (b.take (i + 1)) = V (a.take (i + 1)) + 4294967296 ^ (i + 1) * c' := by
        intro z c' hz hc' he
        rw [V_snoc, V_take_succ, V_take_succ, ho, hx, hy, Int.toNat_natCast, Int.toNat_natCast, Int.toNat_natCast, Nat.pow_succ]
        generalize 4294967296 ^ i = q at *
        have e3 := congrArg (q * ·) he
        simp only [Nat.mul_add] at e3
        rw [Nat.mul_assoc q 4294967296]
        omega
      by_cases hb : x < y + c
      · refine Ev.ifp (by omega) (Ev.ifp (by omega) ?_)
        rw [wu64 (by omega) (by omega), show ((x : Int) + 4294967296 - ((y : Int) + (c : Int))) % 4294967296 = ((x + 4294967296 - (y + c) : Nat) : Int) by omega]
        exact ih (i + 1) _ 1 (by omega) (by rw [List.length_append, ho]; rfl) (W_snoc hw (by omega) (by omega)) (by omega) (st _ 1 (by omega) (by omega) (by omega))
      · refine Ev.ifn (by omega) (Ev.ifp (by omega) ?_)
        rw [wu64 (by omega) (by omega), show ((x : Int) - ((y : Int) + (c : Int))) % 4294967296 = ((x - (y + c) : Nat) : Int) by omega]
        exact ih (i + 1) _ 0 (by omega) (by rw [List.length_append, ho]; rfl) (W_snoc hw (by omega) (by omega)) (by omega) (st _ 0 (by omega) (by omega) (by omega))
  unfold steelyardref01_Sub.f
  exact key a.length 0 [] 0 (by omega) rfl W_nil (by omega) (by simp [V])
theorem rBit_to (sa : S m a) (h : V a = n) (i : Nat) (hi : i < 9223372036854775808) : steelyardref01_Bit.f a (i : Int) = some (n.testBit i) := by
  unfold steelyardref01_Bit.f
  rw [if_pos (by omega), show Int.tdiv (i : Int) 32 = ((i / 32 : Nat) : Int) by rw [Int.tdiv_eq_ediv_of_nonneg (by omega)]; omega, show Int.tmod (i : Int) 32 = ((i % 32 : Nat) : Int) by rw [Int.tmod_eq_emod_of_nonneg (by omega)]; omega,
    w64 (by omega) (by omega), wu64 (by omega) (by omega), rat_spec sa.1, ← h, testBit_V sa.1]
  simp only [Option.bind_some]
  rw [if_pos (by omega)]
  have g := W_get sa.1 (i / 32)
  obtain ⟨t, ht⟩ := Int.eq_ofNat_of_zero_le g.1
  rw [ht] at g ⊢
  congr 1
  have e3 : shr .u64 ((t : Nat) : Int) ((i % 32 : Nat) : Int) = ((t / 2 ^ (i % 32) : Nat) : Int) := by
    unfold shr
    rw [Int.toNat_natCast, Nat.min_eq_left (by show i % 32 ≤ 64; omega)]
    rw [Int.natCast_ediv, Int.natCast_pow]
    rfl
  rw [e3, show (1 : Int) = ((1 : Nat) : Int) from rfl, u64_and_nat _ _ (Nat.lt_of_le_of_lt (Nat.div_le_self _ _) (by omega)) (by decide), Nat.and_one_is_mod, Int.toNat_natCast]
  generalize t / 2 ^ (i % 32) % 2 = q
  by_cases hq : q = 1
  · subst hq; rfl
  · rw [decide_eq_false hq, beq_eq_false_iff_ne]
    omega
theorem rBits_to (sa : S m a) (hm : m ≤ 1000000) (h : V a = n) : Ev (fun k => steelyardref01_Bits.f k a) ((bl n : Nat) : Int) := by
  subst h
  have hla := sa.2
  have hb : bl (V a) ≤ 32 * a.length := bl_S (m := a.length) ⟨sa.1, Nat.le_refl _⟩
  have key : ∀ d i : Nat, i = bl (V a) + d → i ≤ 32 * a.length → Ev (fun k => steelyardref01_Bits.l0 k a (i : Int)) ((bl (V a) : Nat) : Int) := by
    intro d
    induction d with
    | zero =>
      intro i hi hil
      obtain rfl : i = bl (V a) := by omega
      refine Ev.succ ?_
      simp only [steelyardref01_Bits.l0]
      by_cases h0 : V a = 0
      · rw [h0, bl_zero]
        exact Ev.ifn (by omega) (Ev.now _)
      · have hp := bl_pos h0
        have ht : (V a).testBit (bl (V a) - 1) = true := by
          have h1 := bl_le h0
          have h2 := bl_lt (V a)
          rw [show bl (V a) = bl (V a) - 1 + 1 by omega, Nat.pow_succ] at h2
          rw [Nat.testBit_eq_decide_div_mod_eq, Nat.div_eq_of_lt_le (m := V a) (k := 1) (by omega) (by omega)]
          rfl
        rw [w64_pred hp (by omega), rBit_to sa rfl _ (by omega), ht]
        simp only [Option.bind_some]
        exact Ev.ifp (by omega) (Ev.ifp trivial (Ev.now _))
    | succ d ih =>
      intro i hi hil
      refine Ev.succ ?_
      simp only [steelyardref01_Bits.l0]
      rw [w64_pred (by omega) (by omega), rBit_to sa rfl _ (by omega), Nat.testBit_lt_two_pow (bl_le_iff.1 (by omega))]
      simp only [Option.bind_some]
      exact Ev.ifp (by omega) (Ev.ifn (by decide) (ih (i - 1) (by omega) (by omega)))
  unfold steelyardref01_Bits.f
  rw [show (32 : Int) * (a.length : Int) = ((32 * a.length : Nat) : Int) by omega, w64 (by omega) (by omega)]
  exact key (32 * a.length - bl (V a)) (32 * a.length) (by omega) (Nat.le_refl _)
end
end Go.Proofs.YtjgmmaeafodpmaaGreatDoor.Lib
set_option linter.unusedVariables false
set_option linter.unusedSimpArgs false
namespace Go.Proofs.YtjgmmaeafodpmaaGreatDoor.Lib
open Go.RowKit Go.Proofs.YtjgmmaeafodpmaaGreatDoorW.PrintWords Go.Proofs.YtjgmmaeafodpmaaGreatDoorW.PrintMore Go.Proofs.YtjgmmaeafodpmaaGreatDoor.P
section
variable {m p n x y : Nat} {l a b : List Int}
theorem Mul_to (sa : S m a) (sb : S p b) (hm : m + p ≤ 1000000) (h : V a * V b = n) : Ev (fun k => mul_Of.f k a b) (L n) := by
  have h1 := sa.2
  have h2 := sb.2
  exact h ▸ MulOf_spec sa.1 sb.1 (by omega)
theorem Small_to (sa : S m a) (hm : m < 1000000) {v : Int} (h0 : 0 ≤ v) (h1 : v < 4294967296) (h : V a * v.toNat = n) : Ev (fun k => mul_Small.f k a v) (L n) := h ▸ MulSmall_spec sa.1 (Nat.lt_of_le_of_lt sa.2 hm) h0 h1
theorem Shift_to (sa : S m a) (hm : m ≤ 900000) {v : Int} (h0 : -9223372036854775808 ≤ v) (h1 : v < 9223372036854775808) (h : shf (V a) v = n) : Ev (fun k => mul_Shift.f k a v) (L n) := h ▸ Shift_spec sa.1 (Nat.le_trans sa.2 hm) h0 h1
theorem shf_up (x k : Nat) (hk : k ≤ 8192) : shf x (k : Int) = x * 2 ^ k := by
  unfold shf
  rw [if_pos (by omega), Int.toNat_natCast, Nat.min_eq_left hk]
theorem shf_down (x k : Nat) (hk : k ≤ 8192) (h0 : 0 < k) : shf x (-(k : Int)) = x / 2 ^ k := by
  unfold shf
  rw [if_neg (by omega), if_neg (by omega), show (-(-(k : Int))).toNat = k by omega]
theorem shf_down' (x k : Nat) (hk : k ≤ 8192) : shf x (-(k : Int)) = x / 2 ^ k := by
  rcases Nat.eq_zero_or_pos k with h | h
  · subst h
    have := shf_up x 0 (by omega)
    rw [Nat.pow_zero, Nat.mul_one] at this
    rw [Nat.pow_zero, Nat.div_one]
    exact this
  · exact shf_down x k hk h
theorem S_V (n : Nat) (h : n < Bp m) : S m (L n) := S_L h
end
theorem one_lt_Bp {m : Nat} (h : 1 ≤ m) : 1 < Bp m := lt_up (m := 1) (by rw [show Bp 1 = 4294967296 from rfl]; omega) h
end Go.Proofs.YtjgmmaeafodpmaaGreatDoor.Lib
set_option linter.unusedVariables false
set_option linter.unusedSimpArgs false
namespace Go.Proofs.YtjgmmaeafodpmaaGreatDoor.Lib
open Go.RowKit Go.Proofs.YtjgmmaeafodpmaaGreatDoorW.PrintWords Go.Proofs.YtjgmmaeafodpmaaGreatDoorW.PrintMore Go.Proofs.YtjgmmaeafodpmaaGreatDoor.P
section
variable {m p n x y : Nat} {l a b : List Int}
theorem rSmall_to (sa : S m a) (hm : m < 1000000) {v : Int} (h0 : 0 ≤ v) (h1 : v < 4294967296) (h : V a * v.toNat = n) : Ev (fun k => steelyardref02_Small.f k a v) (L n) := by
  have hla := sa.2
  obtain ⟨v, rfl⟩ := Int.eq_ofNat_of_zero_le h0
  rw [Int.toNat_natCast] at h
  have key : ∀ d i (out : List Int) (c : Nat), a.length = i + d → out.length = i → W out → c < 4294967296 → V out + 4294967296 ^ i * c = V (a.take i) * v →
      Ev (fun k => steelyardref02_Small.l0 k a (v : Int) out (c : Int) (i : Int)) (L n) := by
    intro d
    induction d with
    | zero =>
      intro i out c hi ho hw hc hv
      refine Ev.succ ?_
      simp only [steelyardref02_Small.l0]
      rw [show (c : Int) % 4294967296 = ((c : Nat) : Int) by omega]
      refine Ev.ifn (by omega) (Ev.ifp (by omega) (Ev.bind (rTrim_to (m := 1000000) ⟨W_snoc hw (by omega) (by omega), by simp; omega⟩ (by omega) ?_) (Ev.now _)))
      rw [V_snoc, ho, Int.toNat_natCast, hv, V_take_all a (by omega), h]
    | succ d ih =>
      intro i out c hi ho hw hc hv
      refine Ev.succ ?_
      simp only [steelyardref02_Small.l0, rd_nat]
      have g1 := W_get sa.1 i
      obtain ⟨x, hx⟩ := Int.eq_ofNat_of_zero_le g1.1
      have hp : x * v ≤ 4294967295 * 4294967295 := Nat.mul_le_mul (by omega) (by omega)
      rw [hx, wu64 (x := (x : Int)) (by omega) (by omega), wu64 (x := (v : Int)) (by omega) (by omega), ← Int.natCast_mul, wu64 (x := ((x * v : Nat) : Int)) (by omega) (by omega), ← Int.natCast_add, wu64 (x := ((c + x * v : Nat) : Int)) (by omega) (by omega), w64_succ (by omega),
        show ((c + x * v : Nat) : Int) / 4294967296 = (((c + x * v) / 4294967296 : Nat) : Int) by omega, show ((c + x * v : Nat) : Int) % 4294967296 = (((c + x * v) % 4294967296 : Nat) : Int) by omega]
      refine Ev.ifp (by omega) (Ev.ifp (by omega) (Ev.ifp (by omega) ?_))
      refine ih (i + 1) _ _ (by omega) (by rw [List.length_append, ho]; rfl) (W_snoc hw (by omega) (by omega)) (by omega) ?_
      rw [V_snoc, V_take_succ, ho, hx, Int.toNat_natCast, Int.toNat_natCast, Nat.pow_succ]
      generalize 4294967296 ^ i = q at *
      have e2 : 4294967296 * ((c + x * v) / 4294967296) + (c + x * v) % 4294967296 = c + x * v := Nat.div_add_mod _ _
      have e3 := congrArg (q * ·) e2
      simp only [Nat.mul_add] at e3
      rw [Nat.mul_assoc q 4294967296, Nat.add_mul, Nat.mul_assoc q x v]
      omega
  unfold steelyardref02_Small.f
  exact key a.length 0 [] 0 (by omega) rfl W_nil (by omega) (by simp [V])
theorem shl_u64 (x s : Nat) (hx : x < 4294967296) (hs : s < 32) : shl .u64 (x : Int) (s : Int) = ((x * 2 ^ s : Nat) : Int) := by
  have hp := pow_lt_32 hs
  have hb : x * 2 ^ s ≤ 4294967295 * 2147483648 := Nat.mul_le_mul (by omega) hp
  unfold shl
  rw [Int.toNat_natCast, Nat.min_eq_left (by show s ≤ 64; omega), show ((2 : Int) ^ s) = ((2 ^ s : Nat) : Int) by rw [Int.natCast_pow]; rfl, ← Int.natCast_mul]
  exact wu64 (by omega) (by omega)
theorem or_low (c h s : Nat) (hs : s < 32) (hc : c < 2 ^ s) (hh : h < 4294967296) : Go.bits .or .u64 (c : Int) ((h * 2 ^ s : Nat) : Int) = ((h * 2 ^ s + c : Nat) : Int) := by
  have hp := pow_lt_32 hs
  have hb : h * 2 ^ s ≤ 4294967295 * 2147483648 := Nat.mul_le_mul (by omega) hp
  have e := Nat.two_pow_add_eq_or_of_lt hc h
  generalize 2 ^ s = q at *
  rw [u64_or_nat _ _ (by omega) (by omega), Nat.or_comm, Nat.mul_comm h q, ← e]
theorem rUp_to (sa : S m a) (hm : m ≤ 400000) (q : Nat) (hq : q ≤ 16000000) (h : V a * 2 ^ q = n) : Ev (fun k => steelyardref02_Up.f k a (q : Int)) (L n) := by
  have hla := sa.2
  have hs : q % 32 < 32 := by omega
  have hsp := two_split q
  have key : ∀ d i (out : List Int) (c : Nat), a.length = i + d → out.length = q / 32 + i → W out → c < 2 ^ (q % 32) → V out + 4294967296 ^ (q / 32 + i) * c = 4294967296 ^ (q / 32) * (2 ^ (q % 32) * V (a.take i)) →
      Ev (fun k => steelyardref02_Up.l0 k a (q : Int) out (c : Int) (i : Int)) (L n) := by
    intro d
    induction d with
    | zero =>
      intro i out c hi ho hw hc hv
      have hp := pow_lt_32 hs
      have hc2 : c < 4294967296 := by generalize 2 ^ (q % 32) = r at *; omega
      refine Ev.succ ?_
      simp only [steelyardref02_Up.l0]
      rw [show (c : Int) % 4294967296 = ((c : Nat) : Int) by omega]
      refine Ev.ifn (by omega) (Ev.ifp (by omega) (Ev.bind (rTrim_to (m := 1000000) ⟨W_snoc hw (by omega) (by omega), by simp; omega⟩ (by omega) ?_) (Ev.now _)))
      rw [V_snoc, ho, Int.toNat_natCast, hv, V_take_all a (by omega), ← Nat.mul_assoc, hsp, Nat.mul_comm, h]
    | succ d ih =>
      intro i out c hi ho hw hc hv
      have hp := pow_lt_32 hs
      refine Ev.succ ?_
      simp only [steelyardref02_Up.l0, rd_nat]
      have g1 := W_get sa.1 i
      obtain ⟨x, hx⟩ := Int.eq_ofNat_of_zero_le g1.1
      have hxl : x < 4294967296 := by omega
      have hb : x * 2 ^ (q % 32) ≤ 4294967295 * 2 ^ (q % 32) := Nat.mul_le_mul_right _ (by omega)
      rw [hx, wu64 (x := (x : Int)) (by omega) (by omega), tmod32, wu64 (x := ((q % 32 : Nat) : Int)) (by omega) (by omega), shl_u64 x _ hxl hs, or_low c x _ hs hc hxl, w64_succ (by omega),
        show ((x * 2 ^ (q % 32) + c : Nat) : Int) / 4294967296 = (((x * 2 ^ (q % 32) + c) / 4294967296 : Nat) : Int) from (Int.natCast_ediv _ _).symm, show ((x * 2 ^ (q % 32) + c : Nat) : Int) % 4294967296 = (((x * 2 ^ (q % 32) + c) % 4294967296 : Nat) : Int) from (Int.natCast_emod _ _).symm]
      have hlt : (x * 2 ^ (q % 32) + c) % 4294967296 < 4294967296 := Nat.mod_lt _ (by omega)
      have hdv : (x * 2 ^ (q % 32) + c) / 4294967296 < 2 ^ (q % 32) := by
        generalize 2 ^ (q % 32) = r at *
        omega
      refine Ev.ifp (by omega) (Ev.ifp (by omega) (Ev.ifp (by omega) (Ev.ifp (by omega) ?_)))
      refine ih (i + 1) _ _ (by omega) (by rw [List.length_append, ho]; rfl) (W_snoc hw (Int.natCast_nonneg _) (by omega)) hdv ?_
      rw [V_snoc, V_take_succ, ho, hx, Int.toNat_natCast, Int.toNat_natCast, ← Nat.add_assoc, Nat.pow_succ]
      have e2 : 4294967296 * ((x * 2 ^ (q % 32) + c) / 4294967296) + (x * 2 ^ (q % 32) + c) % 4294967296 = x * 2 ^ (q % 32) + c := Nat.div_add_mod _ _
      have e3 := congrArg (4294967296 ^ (q / 32 + i) * ·) e2
      simp only [Nat.mul_add] at e3 ⊢
      rw [Nat.mul_assoc (4294967296 ^ (q / 32 + i)) 4294967296]
      have e4 : 4294967296 ^ (q / 32 + i) * (x * 2 ^ (q % 32)) = 4294967296 ^ (q / 32) * (2 ^ (q % 32) * (4294967296 ^ i * x)) := by
        rw [Nat.pow_add, Nat.mul_comm x, Nat.mul_assoc, Nat.mul_left_comm (4294967296 ^ i)]
      rw [← e4]
      omega
  unfold steelyardref02_Up.f
  rw [tdiv32, w64 (x := ((q / 32 : Nat) : Int)) (by omega) (by omega), ← Int.natCast_add, w64 (x := ((q / 32 + a.length : Nat) : Int)) (by omega) (by omega), w64_succ (by omega), Int.toNat_natCast, Int.toNat_natCast]
  refine Ev.ifp (by omega) (Ev.ifp (by omega) (Ev.ifp (by omega) ?_))
  exact key a.length 0 (List.replicate (q / 32) 0) 0 (by omega) (by rw [List.length_replicate]; rfl) (W_rep _) (Nat.two_pow_pos _) (by rw [V_rep]; simp [V])
theorem rDown_to (sa : S m a) (hm : m ≤ 1000000) (q : Nat) (hq : q < 4611686018427387904) (h : V a / 2 ^ q = n) : Ev (fun k => steelyardref02_Down.f k a (q : Int)) (L n) := by
  have hla := sa.2
  have hs : q % 32 < 32 := by omega
  have e0 : V (a.drop (q / 32)) / 2 ^ (q % 32) = n := by
    rw [← h, ← V_div a sa.1, pow32, Nat.div_div_eq_div_mul, ← Nat.pow_add, show 32 * (q / 32) + q % 32 = q by omega]
  have key : ∀ d i (out : List Int), a.length ≤ q / 32 + i + d → out.length = i → W out → i ≤ a.length → V out = V (a.drop (q / 32)) / 2 ^ (q % 32) % 4294967296 ^ i →
      Ev (fun k => steelyardref02_Down.l0 k a (q : Int) out ((q / 32 + i : Nat) : Int)) (L n) := by
    intro d
    induction d with
    | zero =>
      intro i out hi ho hw hil hv
      refine Ev.succ ?_
      simp only [steelyardref02_Down.l0]
      refine Ev.ifn (by omega) (Ev.bind (rTrim_to (m := 1000000) ⟨hw, by omega⟩ (by omega) ?_) (Ev.now _))
      rw [hv, ← e0]
      refine Nat.mod_eq_of_lt (Nat.lt_of_le_of_lt (Nat.div_le_self _ _) (G_V (W_drop sa.1 _) (by rw [List.length_drop]; omega)))
    | succ d ih =>
      intro i out hi ho hw hil hv
      by_cases hlt : q / 32 + i < a.length
      · refine Ev.succ ?_
        simp only [steelyardref02_Down.l0, rd_nat, tmod32]
        rw [w64_succ (by omega), rd_nat, wu64 (x := ((q % 32 : Nat) : Int)) (by omega) (by omega)]
        have g1 := W_get sa.1 (q / 32 + i)
        have g2 := W_get sa.1 (q / 32 + i + 1)
        obtain ⟨x, hx⟩ := Int.eq_ofNat_of_zero_le g1.1
        obtain ⟨y, hy⟩ := Int.eq_ofNat_of_zero_le g2.1
        have fin : Ev (fun k => steelyardref02_Down.l0 k a (q : Int) (out ++ [(((y * 4294967296 + x) / 2 ^ (q % 32) % 4294967296 : Nat) : Int)]) ((q / 32 + i + 1 : Nat) : Int)) (L n) := by
          have hml : (y * 4294967296 + x) / 2 ^ (q % 32) % 4294967296 < 4294967296 := Nat.mod_lt _ (by omega)
          refine ih (i + 1) _ (by omega) (by rw [List.length_append, ho]; rfl) (W_snoc hw (Int.natCast_nonneg _) (by omega)) (by omega) ?_
          rw [V_snoc, ho, hv, Nat.mod_pow_succ, down_limb (W_drop sa.1 _) i _ hs, get_drop, get_drop, ← Nat.add_assoc, hx, hy, Int.toNat_natCast, Int.toNat_natCast, Int.toNat_natCast]
        rw [hx, hy, wu64 (x := (x : Int)) (by omega) (by omega), wu64 (x := (y : Int)) (by omega) (by omega), wu64 (x := (y : Int) * 4294967296) (by omega) (by omega)]
        refine Ev.ifp (by omega) (Ev.ifp (by omega) ?_)
        by_cases h2 : q / 32 + i + 1 < a.length
        · refine Ev.ifp (by omega) (Ev.ifp (by omega) (Ev.ifp (by omega) (Ev.ifp (by omega) ?_)))
          have hor : Go.bits .or .u64 (x : Int) ((y : Int) * 4294967296) = ((y * 4294967296 + x : Nat) : Int) := by
            rw [← or_high y x (by omega) (by omega), show ((y : Int) * 4294967296) = ((y * 4294967296 : Nat) : Int) by omega, u64_or_nat _ _ (by omega) (by omega), u64_or_nat _ _ (by omega) (by omega), Nat.or_comm]
          rw [hor, shr_u64 _ _ hs, show (4294967296 : Int) = ((4294967296 : Nat) : Int) from rfl, ← Int.natCast_emod]
          exact fin
        · refine Ev.ifn (by omega) (Ev.ifp (by omega) (Ev.ifp (by omega) ?_))
          have hy0 : y = 0 := by
            rw [List.getD_eq_getElem?_getD, List.getElem?_eq_none (by omega)] at hy
            simp at hy
            omega
          rw [hy0, Nat.zero_mul, Nat.zero_add] at fin
          rw [shr_u64 _ _ hs, show (4294967296 : Int) = ((4294967296 : Nat) : Int) from rfl, ← Int.natCast_emod]
          exact fin
      · refine Ev.succ ?_
        simp only [steelyardref02_Down.l0]
        refine Ev.ifn (by omega) (Ev.bind (rTrim_to (m := 1000000) ⟨hw, by omega⟩ (by omega) ?_) (Ev.now _))
        rw [hv, ← e0]
        refine Nat.mod_eq_of_lt (Nat.lt_of_le_of_lt (Nat.div_le_self _ _) (G_V (W_drop sa.1 _) (by rw [List.length_drop]; omega)))
  unfold steelyardref02_Down.f
  rw [tdiv32, w64 (by omega) (by omega)]
  exact key a.length 0 [] (by omega) rfl W_nil (by omega) (by rw [V_nil, Nat.pow_zero, Nat.mod_one])
theorem rMul_to (sa : S m a) (sb : S p b) (hm : m + p < 300000) (h : V a * V b = n) : Ev (fun k => steelyardref02_Of.f k a b) (L n) := by
  have hla := sa.2
  have hlb := sb.2
  have bd : ∀ i, V a * V (b.take i) < Bp (m + p) := fun i => lt_mul sa.v (G_V (W_take sb.1 i) (by rw [List.length_take]; omega)) (Nat.le_refl _)
  have key : ∀ d i : Nat, b.length = i + d → Ev (fun k => steelyardref02_Of.l0 k a b (L (V a * V (b.take i))) (i : Int)) (L n) := by
    intro d
    induction d with
    | zero =>
      intro i hi
      refine Ev.succ ?_
      simp only [steelyardref02_Of.l0]
      refine Ev.ifn (by omega) (Ev.bind (rTrim_to (S_L (bd i)) (by omega) (V_L _)) ?_)
      rw [V_take_all b (by omega), h]
      exact Ev.now _
    | succ d ih =>
      intro i hi
      refine Ev.succ ?_
      simp only [steelyardref02_Of.l0, rd_nat]
      have g1 := W_get sb.1 i
      obtain ⟨x, hx⟩ := Int.eq_ofNat_of_zero_le g1.1
      rw [hx, show (32 : Int) * (i : Int) = ((32 * i : Nat) : Int) by omega, w64 (x := ((32 * i : Nat) : Int)) (by omega) (by omega), w64_succ (by omega)]
      have hx1 : x < Bp 1 := by rw [show Bp 1 = 4294967296 from rfl]; omega
      have e1 : V a * V (b.take (i + 1)) = V a * V (b.take i) + V a * x * 2 ^ (32 * i) := by
        rw [V_take_succ, hx, Int.toNat_natCast, Nat.mul_add, ← pow32, Nat.mul_comm (4294967296 ^ i) x, Nat.mul_assoc]
      have b2 : V a * x * 2 ^ (32 * i) < Bp (m + p) := lt_le (bd (i + 1)) (by rw [e1]; omega)
      refine Ev.ifp (by omega) (Ev.ifp (by omega) ?_)
      refine Ev.bind (rSmall_to sa (by omega) (by omega) (by omega) (n := V a * x) (by rw [Int.toNat_natCast])) ?_
      refine Ev.bind (rUp_to (S_L (lt_mul sa.v hx1 (Nat.le_refl _))) (by omega) (32 * i) (by omega) (n := V a * x * 2 ^ (32 * i)) (by rw [V_L])) ?_
      refine Ev.bind (rAdd_to (S_L (bd i)) (S_L b2) (by omega) (n := V a * V (b.take (i + 1))) (by rw [V_L, V_L, e1])) ?_
      exact ih (i + 1) (by omega)
  unfold steelyardref02_Of.f
  have := key b.length 0 (by omega)
  rw [List.take_zero, V_nil, Nat.mul_zero, L_zero] at this
  exact this
end
end Go.Proofs.YtjgmmaeafodpmaaGreatDoor.Lib
set_option linter.unusedVariables false
set_option linter.unusedSimpArgs false
namespace Go.Proofs.YtjgmmaeafodpmaaGreatDoor.Lib
open Go.RowKit Go.Proofs.YtjgmmaeafodpmaaGreatDoorW.PrintWords Go.Proofs.YtjgmmaeafodpmaaGreatDoorW.PrintMore Go.Proofs.YtjgmmaeafodpmaaGreatDoor.P
theorem Div32_spec {h l y : Nat} (hh : h < y) (hy1 : y < 4294967296) (hl : l < 4294967296) :
    bits_Div32.f (h : Int) (l : Int) (y : Int) = some ((((h * 4294967296 + l) / y : Nat) : Int), (((h * 4294967296 + l) % y : Nat) : Int)) := by
  have hy : 0 < y := by omega
  have hq : (h * 4294967296 + l) / y < 4294967296 := by
    rw [Nat.div_lt_iff_lt_mul hy]
    have := Nat.mul_le_mul_right 4294967296 (show h + 1 ≤ y from hh)
    omega
  have hr : (h * 4294967296 + l) % y < y := Nat.mod_lt _ hy
  unfold bits_Div32.f
  rw [if_neg (by omega), if_neg (by omega), wu64 (x := (y : Int)) (by omega) (by omega), if_neg (by omega), wu64 (x := (h : Int)) (by omega) (by omega), wu64 (x := (l : Int)) (by omega) (by omega), wu64 (x := (h : Int) * 4294967296) (by omega) (by omega),
    or_high h l (by omega) hl, Int.tdiv_eq_ediv_of_nonneg (by omega), Int.tmod_eq_emod_of_nonneg (by omega), ← Int.natCast_ediv, ← Int.natCast_emod]
  generalize (h * 4294967296 + l) / y = q at *
  generalize (h * 4294967296 + l) % y = r at *
  rw [wu64 (x := (q : Int)) (by omega) (by omega), Int.emod_eq_of_lt (a := (q : Int)) (by omega) (by omega), Int.emod_eq_of_lt (a := (r : Int)) (by omega) (by omega)]
theorem V_drop_set (l : List Int) (i : Nat) (x : Int) (h : i < l.length) : V ((l.set i x).drop i) = x.toNat + 4294967296 * V (l.drop (i + 1)) := by
  rw [V_drop_cons _ (by simpa using h), List.drop_set_of_lt (by omega), List.getD_eq_getElem?_getD, List.getElem?_set_self (by simpa using h)]
  rfl
theorem div_step (D x v : Nat) (hv : 0 < v) : (x + 4294967296 * D) / v = (D % v * 4294967296 + x) / v + 4294967296 * (D / v) ∧ (x + 4294967296 * D) % v = (D % v * 4294967296 + x) % v := by
  have e : x + 4294967296 * D = (D % v * 4294967296 + x) + v * (4294967296 * (D / v)) := by
    have h := Nat.div_add_mod D v
    rw [Nat.mul_left_comm]
    omega
  rw [e, Nat.add_mul_div_left _ _ hv, Nat.add_mul_mod_self_left]
  exact ⟨rfl, rfl⟩
theorem QSmall_loop {a : List Int} (ha : W a) (hl : a.length ≤ 1000000) {v : Nat} (hv : 0 < v) (hv1 : v < 4294967296) : ∀ j (out : List Int) (r : Nat), j ≤ a.length → out.length = a.length → W out → (∀ i, i < j → out.getD i 0 = a.getD i 0) →
    V (out.drop j) = V (a.drop j) / v → r = V (a.drop j) % v → Ev (fun k => quo_Small.l0 k (v : Int) (r : Int) out ((j : Int) - 1)) (L (V a / v), ((V a % v : Nat) : Int), true) := by
  intro j
  induction j with
  | zero =>
    intro out r hj ho hw hs hV hr
    rw [List.drop_zero, List.drop_zero] at hV
    rw [List.drop_zero] at hr
    refine Ev.succ ?_
    simp only [quo_Small.l0]
    rw [← hr]
    exact Ev.ifn (by omega) (Ev.bind (Trim_to (m := 1000000) ⟨hw, by omega⟩ (by omega) hV) (Ev.now _))
  | succ j ih =>
    intro out r hj ho hw hs hV hr
    refine Ev.succ ?_
    simp only [quo_Small.l0]
    have g1 := W_get ha j
    obtain ⟨x, hx⟩ := Int.eq_ofNat_of_zero_le g1.1
    have hrv : r < v := by rw [hr]; exact Nat.mod_lt _ hv
    have hq : (r * 4294967296 + x) / v < 4294967296 := by
      rw [Nat.div_lt_iff_lt_mul hv]
      have := Nat.mul_le_mul_right 4294967296 (show r + 1 ≤ v from hrv)
      omega
    have ds := div_step (V (a.drop (j + 1))) x v hv
    rw [← hr] at ds
    rw [show (((j + 1 : Nat) : Int) - 1) = (j : Int) by omega, rd_nat, hs j (by omega), hx, Div32_spec hrv hv1 (by omega), Int.toNat_natCast]
    generalize (r * 4294967296 + x) / v = q1 at *
    generalize (r * 4294967296 + x) % v = r1 at *
    simp only [Option.bind_some]
    rw [w64 (x := (j : Int) - 1) (by omega) (by omega)]
    refine Ev.ifp (by omega) (Ev.ifp (by omega) (Ev.ifp (by omega) ?_))
    refine ih _ _ (by omega) (by rw [List.length_set]; exact ho) (W_set hw j (by omega) (by omega)) (fun i hi => by rw [get_set_ne _ _ (by omega)]; exact hs i (by omega)) ?_ ?_
    · rw [V_drop_set _ _ _ (by omega), hV, V_drop_cons a (i := j) (by omega), hx, Int.toNat_natCast, Int.toNat_natCast, ds.1]
    · rw [V_drop_cons a (i := j) (by omega), hx, Int.toNat_natCast, ds.2]
section
variable {m p n x y : Nat} {l a b : List Int}
theorem QSmall_to (sa : S m a) (hm : m ≤ 1000000) {v : Int} (h0 : 0 < v) (h1 : v < 4294967296) (h : V a / v.toNat = n) (hr : V a % v.toNat = x) : Ev (fun k => quo_Small.f k a v) (L n, (x : Int), true) := by
  obtain ⟨v, rfl⟩ := Int.eq_ofNat_of_zero_le (show 0 ≤ v by omega)
  rw [Int.toNat_natCast] at h hr
  unfold quo_Small.f
  have sL : S m (L (V a)) := S_L sa.v
  have hl := sL.2
  refine Ev.ifn (by omega) (Ev.bind (Trim_to sa hm rfl) ?_)
  rw [w64 (by omega) (by omega)]
  have := QSmall_loop (a := L (V a)) sL.1 (by omega) (v := v) (by omega) (by omega) (L (V a)).length (L (V a)) 0 (by omega) rfl sL.1 (fun _ _ => rfl) (by rw [List.drop_length, V_nil, Nat.zero_div]) (by rw [List.drop_length, V_nil, Nat.zero_mod])
  rw [V_L, h, hr] at this
  exact this
end
theorem quot_le {R D P x y z r0 d0 : Nat} (hz : 0 < z) (h1 : R = r0 + P * (y + 4294967296 * x)) (h2 : D = d0 + P * z) (h3 : r0 < P) : R / D ≤ (x * 4294967296 + y) / z := by
  rw [Nat.le_div_iff_mul_le hz]
  have h4 : R / D * D ≤ R := Nat.div_mul_le_self _ _
  generalize R / D = Q at *
  have h5 : Q * (P * z) ≤ Q * D := Nat.mul_le_mul_left _ (by omega)
  have h6 : P * (Q * z) < P * (y + 4294967296 * x + 1) := by
    rw [Nat.mul_left_comm] at h5
    rw [Nat.mul_add _ (y + 4294967296 * x), Nat.mul_one]
    omega
  have h7 := Nat.lt_of_mul_lt_mul_left h6
  omega
theorem guess_val {row b : List Int} {m x y z : Nat} (hlb : b.length = m + 1) (hl : row.length = m + 2) (hm : m ≤ 1000000) (hx : row.getD (m + 1) 0 = (x : Int)) (hy : row.getD m 0 = (y : Int)) (hz : b.getD m 0 = (z : Int))
    (x1 : x < 4294967296) (y1 : y < 4294967296) (z1 : z < 4294967296) (z0 : 0 < z) : quo_guess.f row b = some ((min ((x * 4294967296 + y) / z) 4294967295 : Nat) : Int) := by
  have ht : (x * 4294967296 + y) / z ≤ x * 4294967296 + y := Nat.div_le_self _ _
  unfold quo_guess.f
  rw [hlb, show (((m + 1 : Nat) : Int) - 1) = (m : Int) by omega, w64 (x := (m : Int)) (by omega) (by omega), rd_nat, rd_nat, rd_nat, hx, hy, hz, hl, wu64 (x := (x : Int)) (by omega) (by omega), wu64 (x := (y : Int)) (by omega) (by omega), wu64 (x := (z : Int)) (by omega) (by omega),
    wu64 (x := (x : Int) * 4294967296) (by omega) (by omega), or_high x y (by omega) (by omega), Int.tdiv_eq_ediv_of_nonneg (by omega), ← Int.natCast_ediv]
  generalize (x * 4294967296 + y) / z = t at *
  rw [if_pos (by omega), if_pos (by omega), if_pos (by omega), if_pos (by omega), if_pos (by omega), if_neg (by omega), wu64 (x := (t : Int)) (by omega) (by omega), show mn (t : Int) 4294967295 = ((min t 4294967295 : Nat) : Int) from mn_nat t 4294967295, Int.emod_eq_of_lt (by omega) (by omega)]
theorem guess_spec {row b : List Int} (hr : W row) (hb : W b) {m : Nat} (hlb : b.length = m + 1) (hl : row.length = m + 2) (hm : m ≤ 1000000) (hlast : b.getD m 0 ≠ 0) (hlt : V row < V b * 4294967296) :
    ∃ q : Nat, quo_guess.f row b = some (q : Int) ∧ q < 4294967296 ∧ V row / V b ≤ q := by
  have gx := W_get hr (m + 1)
  have gy := W_get hr m
  have gz := W_get hb m
  obtain ⟨x, hx⟩ := Int.eq_ofNat_of_zero_le gx.1
  obtain ⟨y, hy⟩ := Int.eq_ofNat_of_zero_le gy.1
  obtain ⟨z, hz⟩ := Int.eq_ofNat_of_zero_le gz.1
  have hz0 : 0 < z := by omega
  have h1 := V_take_add row m
  rw [Nat.min_eq_left (by omega), V_drop_cons row (i := m) (by omega), V_drop_cons row (i := m + 1) (by omega), List.drop_of_length_le (by omega), V_nil, hx, hy, Int.toNat_natCast, Int.toNat_natCast, Nat.mul_zero, Nat.add_zero] at h1
  have h2 := V_take_add b m
  rw [Nat.min_eq_left (by omega), V_drop_cons b (i := m) (by omega), List.drop_of_length_le (by omega), V_nil, hz, Int.toNat_natCast, Nat.mul_zero, Nat.add_zero] at h2
  have hQ2 := quot_le hz0 h1 h2 (V_take_lt hr m)
  have hQ : V row / V b < 4294967296 := Nat.div_lt_of_lt_mul hlt
  refine ⟨_, guess_val hlb hl hm hx hy hz (by omega) (by omega) (by omega) hz0, ?_, ?_⟩
  · generalize (x * 4294967296 + y) / z = t at *
    omega
  · generalize (x * 4294967296 + y) / z = t at *
    generalize V row / V b = q at *
    omega
theorem less_spec {row b : List Int} {M Q R : Nat} (hM : M < 1000000) (sr : S M row) (sb : S M b) (hb : V b ≠ 0) (hQ : V row / V b = Q) (hR : V row % V b = R) : ∀ d q : Nat, q = Q + d → q < 4294967296 →
    Ev (fun k => quo_less.l0 k row b (q : Int)) (L R, (Q : Int)) := by
  have hlt : ∀ q, q < 4294967296 → V b * q < Bp (M + 1) := fun q hq => lt_mul sb.v (show q < Bp 1 from by rw [show Bp 1 = 4294967296 from rfl]; exact hq) (Nat.le_refl _)
  intro d
  induction d with
  | zero =>
    intro q hq h
    rw [Nat.add_zero] at hq
    subst hq
    refine Ev.succ ?_
    simp only [quo_less.l0]
    refine Ev.bind (Small_to sb hM (by omega) (by omega) rfl) (Ev.bind (Sub_to (m := M + 1) (sr.up (by omega)) (S_L (by rw [Int.toNat_natCast]; exact hlt q h)) (by omega) (n := R) ?_) (Ev.ifp rfl (Ev.now _)))
    rw [V_L, Int.toNat_natCast, ← hQ, ← hR]
    exact (Nat.div_add_mod _ _).symm
  | succ d ih =>
    intro q hq h
    refine Ev.succ ?_
    simp only [quo_less.l0]
    refine Ev.bind (Small_to sb hM (by omega) (by omega) rfl) (Ev.bind (Sub_no (m := M + 1) (sr.up (by omega)) (S_L (by rw [Int.toNat_natCast]; exact hlt q h)) (by omega) ?_) (Ev.ifn (by decide) ?_))
    · rw [V_L, Int.toNat_natCast, hq]
      have h1 := Nat.lt_mul_div_succ (V row) (show 0 < V b by omega)
      rw [hQ] at h1
      exact Nat.lt_of_lt_of_le h1 (Nat.mul_le_mul_left (V b) (by omega))
    · have := ih (q - 1) (by omega) (by omega)
      rw [show (((q - 1 : Nat) : Int)) = ((q : Int) - 1) % 4294967296 by omega] at this
      exact this
theorem row_eq (n : Nat) (left : List Int) (h : left.length ≤ n) (x : Int) : (cpy (List.replicate (n + 1) 0) 1 left).set 0 x = x :: (left ++ List.replicate (n - left.length) 0) := by
  simp [cpy, List.take_of_length_le h, List.replicate_succ, Nat.add_comm 1 left.length]
theorem Rem_loop {a b : List Int} (ha : W a) (hb : W b) (hla : a.length ≤ 900000) (hlb : b.length ≤ 900000) {m : Nat} (hbm : b.length = m + 1) (hlast : b.getD m 0 ≠ 0) (hb0 : V b ≠ 0) (s : Nat) (hs : s < 32) :
    ∀ j (q left : List Int), j ≤ a.length → q.length = a.length → W q → V (q.drop j) = V (a.drop j) / V b → left = L (V (a.drop j) % V b) →
    Ev (fun k => quo_Rem.l0 k a b q (s : Int) left ((j : Int) - 1)) (L (V a / V b), L (V a % V b / 2 ^ s), true) := by
  intro j
  induction j with
  | zero =>
    intro q left hj ho hw hV hr
    rw [List.drop_zero, List.drop_zero] at hV
    rw [List.drop_zero] at hr
    have hlt : V a % V b < Bp b.length := Nat.lt_of_lt_of_le (Nat.mod_lt _ (by omega)) (Nat.le_of_lt (V_lt hb))
    refine Ev.succ ?_
    simp only [quo_Rem.l0]
    rw [w64 (x := -(s : Int)) (by omega) (by omega), hr]
    refine Ev.ifn (by omega) (Ev.bind (Trim_to (m := 1000000) ⟨hw, by omega⟩ (by omega) hV) (Ev.bind (Shift_to (S_L hlt) (by omega) (by omega) (by omega) (by rw [V_L]; exact shf_down' _ _ (by omega))) (Ev.now _)))
  | succ j ih =>
    intro q left hj ho hw hV hr
    have hlt : V (a.drop (j + 1)) % V b < V b := Nat.mod_lt _ (by omega)
    have hll : left.length ≤ b.length := by rw [hr]; exact L_len_le (Nat.lt_trans hlt (V_lt hb))
    have hvl : V left = V (a.drop (j + 1)) % V b := by rw [hr, V_L]
    have hwl : W left := by rw [hr]; exact W_L _
    refine Ev.succ ?_
    simp only [quo_Rem.l0]
    have g1 := W_get ha j
    obtain ⟨x, hx⟩ := Int.eq_ofNat_of_zero_le g1.1
    have hxl : x < 4294967296 := by omega
    rw [w64_succ (i := b.length) (by omega), Int.toNat_natCast, show (((j + 1 : Nat) : Int) - 1) = (j : Int) by omega, rd_nat, hx, Int.toNat_natCast, w64 (x := (j : Int) - 1) (by omega) (by omega), show ((0 : Int)).toNat = 0 from rfl]
    simp only [Option.bind_some]
    rw [row_eq b.length left hll]
    have hwr : W ((x : Int) :: (left ++ List.replicate (b.length - left.length) 0)) := by
      rw [W_cons, W_app]
      exact ⟨⟨by omega, by omega⟩, hwl, W_rep _⟩
    have hlr : ((x : Int) :: (left ++ List.replicate (b.length - left.length) 0)).length = m + 2 := by
      rw [List.length_cons, List.length_append, List.length_replicate]; omega
    have hvr : V ((x : Int) :: (left ++ List.replicate (b.length - left.length) 0)) = V (a.drop (j + 1)) % V b * 4294967296 + x := by
      rw [V_cons, V_app, V_rep, hvl, Int.toNat_natCast]; omega
    generalize ((x : Int) :: (left ++ List.replicate (b.length - left.length) 0)) = row at *
    have hrl : V row < V b * 4294967296 := by rw [hvr]; omega
    obtain ⟨g, hg, hg1, hg2⟩ := guess_spec hwr hb hbm hlr (by omega) hlast hrl
    have ds := div_step (V (a.drop (j + 1))) x (V b) (by omega)
    rw [← hvr] at ds
    have hQ : V row / V b < 4294967296 := Nat.div_lt_of_lt_mul hrl
    obtain ⟨Q, eQ⟩ : ∃ Q, V row / V b = Q := ⟨_, rfl⟩
    obtain ⟨R, eR⟩ : ∃ R, V row % V b = R := ⟨_, rfl⟩
    rw [eQ] at hQ hg2
    rw [eQ, eR] at ds
    rw [hg]
    simp only [Option.bind_some]
    refine Ev.ifp (by omega) (Ev.ifp (by omega) (Ev.ifp (by omega) (Ev.ifp (by rw [List.length_replicate]; omega) (Ev.ifp (by omega) (Ev.ifp (by omega) (Ev.ifp (by rw [List.length_replicate]; omega) ?_))))))
    unfold quo_less.f
    refine Ev.bind (less_spec (M := m + 2) (by omega) ⟨hwr, by omega⟩ ⟨hb, by omega⟩ hb0 eQ eR (g - Q) g (by omega) hg1) (Ev.ifp (by omega) ?_)
    refine ih _ _ (by omega) (by rw [List.length_set]; exact ho) (W_set hw j (by omega) (by omega)) ?_ ?_
    · rw [V_drop_set _ _ _ (by omega), hV, V_drop_cons a (i := j) (by omega), hx, Int.toNat_natCast, Int.toNat_natCast, ds.1]
    · rw [V_drop_cons a (i := j) (by omega), hx, Int.toNat_natCast, ds.2]
section
variable {m p n x y q r : Nat} {l a b : List Int}
theorem Rem_to (sa : S m a) (sb : S p b) (hm : m ≤ 800000) (hp : p ≤ 800000) (h0 : V b ≠ 0) (hq : V a / V b = q) (hr : V a % V b = r) : Ev (fun k => quo_Rem.f k a b) (L q, L r, true) := by
  have sL : S p (L (V b)) := S_L sb.v
  have hl := sL.2
  have hpos : (L (V b)).length ≠ 0 := fun e => h0 (L_len_zero.1 e)
  have hlast := L_last h0
  unfold quo_Rem.f
  refine Ev.bind (Trim_to sb (by omega) rfl) ?_
  have g1 := W_get sL.1 ((L (V b)).length - 1)
  obtain ⟨z, hz⟩ := Int.eq_ofNat_of_zero_le g1.1
  have hz0 : z ≠ 0 := by omega
  have hz1 : z < 4294967296 := by omega
  have hbz := bl_pos hz0
  have hbz2 : bl z ≤ 32 := bl_le_iff.2 hz1
  obtain ⟨s, hs⟩ : ∃ s, 32 - bl z = s := ⟨_, rfl⟩
  have hlz : bits_LeadingZeros32.f (z : Int) = some (s : Int) := by
    unfold bits_LeadingZeros32.f
    rw [Len32_spec hz1]
    simp only [Option.bind_some]
    rw [w64 (by omega) (by omega)]
    exact congrArg some (by omega)
  have hp2 : 2 ^ s < Bp 1 := two_lt (by omega)
  have la : V a * 2 ^ s < Bp (m + 1) := lt_mul sa.v hp2 (Nat.le_refl _)
  have lb : V b * 2 ^ s < Bp (p + 1) := lt_mul sb.v hp2 (Nat.le_refl _)
  have hb0 : V b * 2 ^ s ≠ 0 := Nat.mul_ne_zero h0 (Nat.pos_iff_ne_zero.1 (Nat.two_pow_pos s))
  have sA : S (m + 1) (L (V a * 2 ^ s)) := S_L la
  have sB : S (p + 1) (L (V b * 2 ^ s)) := S_L lb
  have hlA := sA.2
  have hlB := sB.2
  have hpB : (L (V b * 2 ^ s)).length ≠ 0 := fun e => hb0 (L_len_zero.1 e)
  rw [w64_pred (by omega) (by omega), rd_nat, hz, hlz]
  simp only [Option.bind_some]
  refine Ev.ifn (by omega) (Ev.ifp (by omega) (Ev.ifp (by omega) ?_))
  refine Ev.bind (Shift_to sa (by omega) (by omega) (by omega) (shf_up _ _ (by omega))) ?_
  refine Ev.bind (Shift_to sL (by omega) (by omega) (by omega) (n := V b * 2 ^ s) (by rw [V_L]; exact shf_up _ _ (by omega))) ?_
  rw [Int.toNat_natCast, w64 (by omega) (by omega)]
  refine Ev.ifp (by omega) (Ev.ifp (by omega) ?_)
  have := Rem_loop sA.1 sB.1 (by omega) (by omega) (m := (L (V b * 2 ^ s)).length - 1) (by omega) (L_last hb0) (by rw [V_L]; exact hb0) s (by omega) (L (V a * 2 ^ s)).length (List.replicate (L (V a * 2 ^ s)).length 0) [] (by omega) (by rw [List.length_replicate]) (W_rep _)
    (by rw [List.drop_length, V_nil, Nat.zero_div, List.drop_replicate, V_rep]) (by rw [List.drop_length, V_nil, Nat.zero_mod, L_zero])
  rw [V_L, V_L, Nat.mul_div_mul_right _ _ (Nat.two_pow_pos s), Nat.mul_mod_mul_right, Nat.mul_div_cancel _ (Nat.two_pow_pos s), hq, hr] at this
  exact this
theorem Gcd_to (sa : S m a) (sb : S m b) (hm : m ≤ 800000) (h : Nat.gcd (V a) (V b) = n) : Ev (fun k => quo_Gcd.f k a b) (L n) := by
  have key : ∀ y x, x < Bp m → y < Bp m → Ev (fun k => quo_Gcd.l0 k (L x) (L y)) (L (Nat.gcd x y)) := by
    intro y
    induction y using Nat.strongRecOn with
    | ind y ih =>
      intro x hx hy
      refine Ev.succ ?_
      simp only [quo_Gcd.l0]
      by_cases h0 : y = 0
      · subst h0
        rw [L_zero, Nat.gcd_zero_right]
        exact Ev.ifn (by decide) (Ev.now _)
      · have hl : (L y).length ≠ 0 := fun e => h0 (L_len_zero.1 e)
        refine Ev.ifp (by omega) (Ev.bind (Rem_to (S_L hx) (S_L hy) hm hm (by rw [V_L]; exact h0) rfl rfl) ?_)
        have hlt := Nat.mod_lt x (show 0 < y by omega)
        have := ih (x % y) hlt y hy (Nat.lt_trans hlt hy)
        rw [V_L, V_L]
        rw [Nat.gcd_comm y, ← Nat.gcd_rec y x, Nat.gcd_comm y] at this
        exact this
  unfold quo_Gcd.f
  refine Ev.bind (Trim_to sa (by omega) rfl) (Ev.bind (Trim_to sb (by omega) rfl) ?_)
  rw [← h]
  exact key _ _ sa.v sb.v
end
end Go.Proofs.YtjgmmaeafodpmaaGreatDoor.Lib
set_option linter.unusedVariables false
set_option linter.unusedSimpArgs false
namespace Go.Proofs.YtjgmmaeafodpmaaGreatDoor.Lib
open Go.RowKit Go.Proofs.YtjgmmaeafodpmaaGreatDoorW.PrintWords Go.Proofs.YtjgmmaeafodpmaaGreatDoorW.PrintMore Go.Proofs.YtjgmmaeafodpmaaGreatDoor.P
theorem V_set (l : List Int) (y : Int) : ∀ k, k < l.length → V (l.set k y) + 4294967296 ^ k * (l.getD k 0).toNat = V l + 4294967296 ^ k * y.toNat := by
  induction l with
  | nil => intro k h; simp at h
  | cons x xs ih =>
    intro k h
    cases k with
    | zero => simp only [List.set_cons_zero, V_cons, Nat.pow_zero, Nat.one_mul, List.getD_cons_zero]; omega
    | succ k =>
      have := ih k (by simpa using h)
      simp only [List.set_cons_succ, V_cons, List.getD_cons_succ, Nat.pow_succ]
      generalize 4294967296 ^ k = P at *
      have e := congrArg (4294967296 * ·) this
      simp only [Nat.mul_add] at e
      rw [Nat.mul_comm P, Nat.mul_assoc, Nat.mul_assoc]
      omega
theorem or_two (x s : Nat) (h : x.testBit s = false) : x ||| 2 ^ s = x + 2 ^ s := by
  rw [Nat.testBit_eq_decide_div_mod_eq] at h
  have h0 : x / 2 ^ s % 2 = 0 := by
    have := of_decide_eq_false h
    omega
  have hlo : x % 2 ^ s < 2 ^ s := Nat.mod_lt _ (Nat.two_pow_pos s)
  have e1 : x = 2 ^ (s + 1) * (x / 2 ^ s / 2) + x % 2 ^ s := by
    have a1 := Nat.div_add_mod x (2 ^ s)
    have a2 := Nat.div_add_mod (x / 2 ^ s) 2
    rw [h0, Nat.add_zero] at a2
    rw [Nat.pow_succ, Nat.mul_assoc, a2]
    exact a1.symm
  generalize x / 2 ^ s / 2 = c at *
  generalize x % 2 ^ s = lo at *
  have hlo2 : 2 ^ s + lo < 2 ^ (s + 1) := by rw [Nat.pow_succ]; omega
  have hlo3 : lo < 2 ^ (s + 1) := by rw [Nat.pow_succ]; omega
  have e2 := Nat.two_pow_add_eq_or_of_lt hlo 1
  rw [Nat.mul_one] at e2
  rw [e1, Nat.two_pow_add_eq_or_of_lt hlo3, Nat.or_assoc, Nat.or_comm lo, ← e2, ← Nat.two_pow_add_eq_or_of_lt hlo2, ← Nat.two_pow_add_eq_or_of_lt hlo3]
  omega
theorem or_lt (x s : Nat) (hx : x < 4294967296) (hs : s < 32) : x ||| 2 ^ s < 4294967296 :=
  Nat.or_lt_two_pow (n := 32) hx (Nat.pow_lt_pow_right (by omega) hs)
theorem set_bit {l : List Int} (hw : W l) (i : Nat) (h : i / 32 < l.length) (hb : (V l).testBit i = false) :
    ∃ x : Nat, l.getD (i / 32) 0 = (x : Int) ∧ x + 2 ^ (i % 32) < 4294967296 ∧ x.testBit (i % 32) = false ∧ Go.bits .or .u32 (x : Int) ((2 ^ (i % 32) : Nat) : Int) = ((x + 2 ^ (i % 32) : Nat) : Int) ∧
      V (l.set (i / 32) ((x + 2 ^ (i % 32) : Nat) : Int)) = V l + 2 ^ i := by
  have g := W_get hw (i / 32)
  obtain ⟨x, hx⟩ := Int.eq_ofNat_of_zero_le g.1
  have hs : i % 32 < 32 := by omega
  have hxl : x < 4294967296 := by omega
  rw [testBit_V hw, hx, Int.toNat_natCast] at hb
  have hb2 : x.testBit (i % 32) = false := by rw [Nat.testBit_eq_decide_div_mod_eq]; exact hb
  have e := or_two x (i % 32) hb2
  have hlt := or_lt x _ hxl hs
  have hp : 2 ^ (i % 32) < 4294967296 := Nat.lt_of_le_of_lt (Nat.le_add_left _ x) (by rw [← e]; exact hlt)
  refine ⟨x, hx, by rw [← e]; exact hlt, hb2, by rw [Go.u32_or_nat _ _ hxl hp, e], ?_⟩
  have hv := V_set l ((x + 2 ^ (i % 32) : Nat) : Int) (i / 32) h
  rw [hx, Int.toNat_natCast, Int.toNat_natCast, Nat.mul_add, two_split] at hv
  omega
theorem no_bit {v i c : Nat} (h : v = 2 ^ (i + 1) * c) : v.testBit i = false := by
  rw [Nat.testBit_eq_decide_div_mod_eq, h, Nat.pow_succ, Nat.mul_assoc, Nat.mul_div_cancel_left _ (Nat.two_pow_pos i)]
  simp
theorem rRem_loop {A B n M len : Nat} (hB : 0 < B) (hM : M < 1000000) (hlen : len ≤ 1000000) (hA : A < Bp M) (hx : B * 2 ^ n < Bp M) : ∀ i lv (q x : List Int), W q → q.length = len → i ≤ 32 * len → i ≤ n + 1 → (∃ c, V q = 2 ^ i * c) → V q * B + lv = A → lv < B * 2 ^ i →
    (∀ j, i = j + 1 → x = L (B * 2 ^ j)) → Ev (fun k => steelyardref03_Rem.l0 k (L lv) q x ((i : Int) - 1)) (L (A / B), L (A % B), true) := by
  intro i
  induction i with
  | zero =>
    intro lv q x hw hl hi hn hc hv hlt hx'
    rw [Nat.pow_zero, Nat.mul_one] at hlt
    have e : A = lv + B * V q := by rw [← hv, Nat.mul_comm]; omega
    refine Ev.succ ?_
    simp only [steelyardref03_Rem.l0]
    rw [e, Nat.add_mul_div_left _ _ hB, Nat.add_mul_mod_self_left, Nat.div_eq_of_lt hlt, Nat.mod_eq_of_lt hlt, Nat.zero_add]
    exact Ev.ifn (by omega) (Ev.bind (rTrim_to (m := 1000000) ⟨hw, by omega⟩ (by omega) rfl) (Ev.now _))
  | succ i ih =>
    intro lv q x hw hl hi hn hc hv hlt hx'
    obtain ⟨c, hc⟩ := hc
    obtain rfl := hx' i rfl
    have hxi : B * 2 ^ i < Bp M := Nat.lt_of_le_of_lt (Nat.mul_le_mul_left _ (Nat.pow_le_pow_right (by omega) (by omega))) hx
    have hlv : lv < Bp M := by omega
    have hp2 : 2 ^ (i + 1) = 2 ^ i * 2 := Nat.pow_succ _ _
    have half : ∀ j, i = j + 1 → L (B * 2 ^ i / 2 ^ 1) = L (B * 2 ^ j) := fun j hj => by
      rw [hj, Nat.pow_succ 2 j, ← Nat.mul_assoc, Nat.pow_one, Nat.mul_div_cancel _ (by omega)]
    have dn : Ev (fun k => steelyardref02_Down.f k (L (B * 2 ^ i)) 1) (L (B * 2 ^ i / 2 ^ 1)) := by
      have := rDown_to (S_L hxi) (by omega) 1 (by omega) rfl
      rw [V_L] at this
      exact this
    obtain ⟨cc, hcc⟩ : ∃ cc, cmpI lv (B * 2 ^ i) = cc := ⟨_, rfl⟩
    have rc := cmpI_range lv (B * 2 ^ i)
    rw [hcc] at rc
    refine Ev.succ ?_
    simp only [steelyardref03_Rem.l0]
    rw [show (((i + 1 : Nat) : Int) - 1) = (i : Int) by omega, tdiv32, tmod32, w64 (x := ((i / 32 : Nat) : Int)) (by omega) (by omega), wu64 (x := ((i % 32 : Nat) : Int)) (by omega) (by omega), shl_one (by omega), rd_nat, Int.toNat_natCast, w64 (x := (i : Int) - 1) (by omega) (by omega)]
    refine Ev.ifp (by omega) (Ev.bind (rCmp_to (S_L hlv) (S_L hxi) (by omega) (c := cc) (by rw [V_L, V_L]; exact hcc)) ?_)
    by_cases hge : B * 2 ^ i ≤ lv
    · obtain ⟨y, hy, hy1, _, hor, hvs⟩ := set_bit hw i (by omega) (no_bit hc)
      rw [hy, hor]
      refine Ev.ifp (by omega) (Ev.bind (rSub_to (S_L hlv) (S_L hxi) (by omega) (n := lv - B * 2 ^ i) (by rw [V_L, V_L]; omega)) (Ev.ifp (by omega) (Ev.ifp (by omega) (Ev.ifp (by omega) (Ev.bind dn ?_)))))
      refine ih (lv - B * 2 ^ i) _ _ (W_set hw _ (Int.natCast_nonneg _) (by omega)) (by rw [List.length_set]; exact hl) (by omega) (by omega) ⟨2 * c + 1, ?_⟩ ?_ ?_ half
      · rw [hvs, hc, hp2, Nat.mul_add, Nat.mul_one, Nat.mul_assoc]
      · rw [hvs, Nat.add_mul, Nat.mul_comm (2 ^ i) B]; omega
      · rw [hp2, ← Nat.mul_assoc] at hlt; omega
    · refine Ev.ifn (by omega) (Ev.bind dn ?_)
      exact ih lv _ _ hw hl (by omega) (by omega) ⟨2 * c, by rw [hc, hp2, Nat.mul_assoc]⟩ hv (by omega) half
section
variable {m p n x y q r : Nat} {l a b : List Int}
theorem rRem_to (sa : S m a) (sb : S p b) (hm : m ≤ 100000) (hp : p ≤ 100000) (h0 : V b ≠ 0) (hq : V a / V b = q) (hr : V a % V b = r) : Ev (fun k => steelyardref03_Rem.f k a b) (L q, L r, true) := by
  have hb := bl_pos h0
  have ha1 := bl_S sa
  have hb1 := bl_S sb
  obtain ⟨n, hn⟩ : ∃ n, bl (V a) - bl (V b) = n := ⟨_, rfl⟩
  have hmx : mx 0 (wrap64 (((bl (V a) : Nat) : Int) - ((bl (V b) : Nat) : Int))) = (n : Int) := by
    rw [w64 (by omega) (by omega)]
    unfold mx
    split <;> omega
  have hlt : V a < V b * 2 ^ (n + 1) := by
    refine Nat.lt_of_lt_of_le (bl_lt _) (Nat.le_trans (Nat.pow_le_pow_right (by omega) (show bl (V a) ≤ bl (V b) - 1 + (n + 1) by omega)) ?_)
    rw [Nat.pow_add]
    exact Nat.mul_le_mul_right _ (bl_le h0)
  have hx : V b * 2 ^ n < Bp (m + p + 1) := lt_mul sb.v (two_lt (m := m + 1) (by omega)) (by omega)
  unfold steelyardref03_Rem.f
  refine Ev.bind (rBits_to sb (by omega) rfl) (Ev.ifn (by omega) (Ev.bind (rTrim_to sa (by omega) rfl) (Ev.bind (rBits_to sa (by omega) rfl) (Ev.bind (rBits_to sb (by omega) rfl) ?_))))
  rw [hmx, tdiv32, w64 (x := ((n / 32 : Nat) : Int)) (by omega) (by omega), w64_succ (by omega), Int.toNat_natCast]
  refine Ev.ifp (by omega) (Ev.ifp (by omega) (Ev.bind (rUp_to sb (by omega) n (by omega) rfl) ?_))
  have := rRem_loop (A := V a) (B := V b) (n := n) (M := m + p + 1) (len := n / 32 + 1) (by omega) (by omega) (by omega) (lt_up sa.v (by omega)) hx (n + 1) (V a) (List.replicate (n / 32 + 1) 0) (L (V b * 2 ^ n)) (W_rep _) (by rw [List.length_replicate]) (by omega) (by omega) ⟨0, by rw [V_rep, Nat.mul_zero]⟩
    (by rw [V_rep, Nat.zero_mul, Nat.zero_add]) hlt (fun j hj => by rw [show n = j by omega])
  rw [show (((n + 1 : Nat) : Int) - 1) = (n : Int) by omega, hq, hr] at this
  exact this
theorem rGcd_to (sa : S m a) (sb : S m b) (hm : m ≤ 100000) (h : Nat.gcd (V a) (V b) = n) : Ev (fun k => steelyardref03_Gcd.f k a b) (L n) := by
  have key : ∀ y x, x < Bp m → y < Bp m → Ev (fun k => steelyardref03_Gcd.l0 k (L x) (L y)) (L (Nat.gcd x y)) := by
    intro y
    induction y using Nat.strongRecOn with
    | ind y ih =>
      intro x hx hy
      refine Ev.succ ?_
      simp only [steelyardref03_Gcd.l0]
      by_cases h0 : y = 0
      · subst h0
        rw [L_zero, Nat.gcd_zero_right]
        exact Ev.ifn (by decide) (Ev.now _)
      · have hl : (L y).length ≠ 0 := fun e => h0 (L_len_zero.1 e)
        refine Ev.ifp (by omega) (Ev.bind (rRem_to (S_L hx) (S_L hy) hm hm (by rw [V_L]; exact h0) rfl rfl) ?_)
        have hlt := Nat.mod_lt x (show 0 < y by omega)
        have := ih (x % y) hlt y hy (Nat.lt_trans hlt hy)
        rw [V_L, V_L]
        rw [Nat.gcd_comm y, ← Nat.gcd_rec y x, Nat.gcd_comm y] at this
        exact this
  unfold steelyardref03_Gcd.f
  refine Ev.bind (rTrim_to sa (by omega) rfl) (Ev.bind (rTrim_to sb (by omega) rfl) ?_)
  rw [← h]
  exact key _ _ sa.v sb.v
end
end Go.Proofs.YtjgmmaeafodpmaaGreatDoor.Lib
set_option linter.unusedVariables false
set_option linter.unusedSimpArgs false
namespace Go.Proofs.YtjgmmaeafodpmaaGreatDoor.Lib
open Go.RowKit Go.Proofs.YtjgmmaeafodpmaaGreatDoorW.PrintWords Go.Proofs.YtjgmmaeafodpmaaGreatDoorW.PrintMore
def ns (s : ByteArray) : List Int := s.data.toList.map fun b => (b.toNat : Int)
def B8 (l : List Int) : Prop := ∀ x ∈ l, 0 ≤ x ∧ x < 256
theorem ns_len (s : ByteArray) : (ns s).length = s.size := by unfold ns; rw [List.length_map, Array.length_toList]; rfl
theorem ns_B8 (s : ByteArray) : B8 (ns s) := fun x hx => by
  simp only [ns, List.mem_map] at hx
  obtain ⟨b, _, rfl⟩ := hx
  have := b.toNat_lt
  omega
theorem bt_ns (s : ByteArray) (i : Nat) : bt s (i : Int) = (ns s).getD i 0 := by
  unfold bt
  rw [Int.toNat_natCast]
  by_cases h : i < s.size
  · rw [dif_pos h, List.getD_eq_getElem?_getD, List.getElem?_eq_getElem (by rw [ns_len]; exact h), Option.getD_some]
    simp only [ns, List.getElem_map, ByteArray.getElem_eq_getElem_data, Array.getElem_toList]
  · rw [dif_neg h, List.getD_eq_getElem?_getD, List.getElem?_eq_none (by rw [ns_len]; omega), Option.getD_none]
theorem ns_append (s t : ByteArray) : ns (s ++ t) = ns s ++ ns t := by simp [ns, ByteArray.data_append]
theorem ns_extract (s : ByteArray) (a b : Nat) : ns (s.extract a b) = ((ns s).drop a).take (b - a) := by
  simp only [ns, ByteArray.data_extract, Array.toList_extract, List.extract_eq_take_drop, List.map_take, List.map_drop]
theorem ns_strOf {l : List Int} (h : B8 l) : ns (strOfNums l) = l := by
  unfold ns
  rw [strOfNums_data, List.map_map]
  conv => rhs; rw [← List.map_id l]
  refine List.map_congr_left fun x hx => ?_
  have := h x hx
  simp only [Function.comp_apply, id_eq, UInt8.toNat_ofNat']
  omega
theorem ns_inj {s t : ByteArray} (h : ns s = ns t) : s = t := by
  have h2 : s.data.toList = t.data.toList := by
    unfold ns at h
    refine List.map_inj_right (f := fun b : UInt8 => (b.toNat : Int)) (fun a b e => ?_) |>.1 h
    exact UInt8.toNat_inj.1 (Int.ofNat.inj e)
  cases s; cases t
  simp only [ByteArray.mk.injEq]
  exact Array.toList_inj.1 h2
theorem ns_eq_iff {s t : ByteArray} : s.toList = t.toList ↔ ns s = ns t := by
  rw [ByteArray.toList_eq, ByteArray.toList_eq]
  constructor
  · intro h; unfold ns; rw [h]
  · intro h; rw [ns_inj h]
theorem ns_nil_iff {s : ByteArray} : s.toList = ([] : List UInt8) ↔ ns s = [] := by
  rw [ByteArray.toList_eq]
  unfold ns
  rw [List.map_eq_nil_iff]
theorem ns_size (s : ByteArray) : s.size = (ns s).length := (ns_len s).symm
end Go.Proofs.YtjgmmaeafodpmaaGreatDoor.Lib
set_option linter.unusedVariables false
set_option linter.unusedSimpArgs false
namespace Go.Proofs.YtjgmmaeafodpmaaGreatDoor.Lib
open Go.RowKit Go.Proofs.YtjgmmaeafodpmaaGreatDoorW.PrintWords Go.Proofs.YtjgmmaeafodpmaaGreatDoorW.PrintMore
def Dg (l : List Int) : Prop := ∀ x ∈ l, 48 ≤ x ∧ x ≤ 57
def lv : List Int → Nat
  | [] => 0
  | x :: xs => (x - 48).toNat + 10 * lv xs
def pv (l : List Int) : Nat := l.foldl (fun v x => 10 * v + (x - 48).toNat) 0
def dl (n : Nat) : List Int := if h : n = 0 then [] else ((48 + n % 10 : Nat) : Int) :: dl (n / 10)
termination_by n
decreasing_by exact Nat.div_lt_self (by omega) (by omega)
theorem dl_zero : dl 0 = [] := by rw [dl]; rfl
theorem dl_pos {n : Nat} (h : n ≠ 0) : dl n = ((48 + n % 10 : Nat) : Int) :: dl (n / 10) := by rw [dl, dif_neg h]
theorem Dg_nil : Dg [] := fun _ h => by cases h
theorem Dg_cons {x : Int} {l : List Int} : Dg (x :: l) ↔ (48 ≤ x ∧ x ≤ 57) ∧ Dg l := by simp [Dg]
theorem Dg_app {a b : List Int} : Dg (a ++ b) ↔ Dg a ∧ Dg b := by
  simp only [Dg, List.mem_append]
  exact ⟨fun h => ⟨fun x hx => h x (.inl hx), fun x hx => h x (.inr hx)⟩, fun h x hx => hx.elim (h.1 x) (h.2 x)⟩
theorem Dg_B8 {l : List Int} (h : Dg l) : B8 l := fun x hx => by have := h x hx; omega
theorem Dg_take {l : List Int} (h : Dg l) (n : Nat) : Dg (l.take n) := fun x hx => h x (List.mem_of_mem_take hx)
theorem Dg_drop {l : List Int} (h : Dg l) (n : Nat) : Dg (l.drop n) := fun x hx => h x (List.mem_of_mem_drop hx)
theorem Dg_rev {l : List Int} (h : Dg l) : Dg l.reverse := fun x hx => h x (List.mem_reverse.1 hx)
theorem Dg_dl (n : Nat) : Dg (dl n) := by
  induction n using Nat.strongRecOn with
  | ind n ih =>
    by_cases h : n = 0
    · subst h; rw [dl_zero]; exact Dg_nil
    · rw [dl_pos h, Dg_cons]
      exact ⟨by omega, ih _ (Nat.div_lt_self (by omega) (by omega))⟩
theorem lv_dl (n : Nat) : lv (dl n) = n := by
  induction n using Nat.strongRecOn with
  | ind n ih =>
    by_cases h : n = 0
    · subst h; rw [dl_zero]; rfl
    · rw [dl_pos h, lv, ih _ (Nat.div_lt_self (by omega) (by omega))]
      omega
theorem lv_app (a b : List Int) : lv (a ++ b) = lv a + 10 ^ a.length * lv b := by
  induction a with
  | nil => simp [lv]
  | cons x xs ih =>
    rw [List.cons_append, lv, ih, lv, List.length_cons, Nat.pow_succ, Nat.mul_add, ← Nat.mul_assoc, Nat.mul_comm (10 ^ xs.length) 10]
    omega
theorem lv_lt {l : List Int} (h : Dg l) : lv l < 10 ^ l.length := by
  induction l with
  | nil => simp [lv]
  | cons x xs ih =>
    obtain ⟨hx, hxs⟩ := Dg_cons.1 h
    have := ih hxs
    rw [lv, List.length_cons, Nat.pow_succ]
    omega
theorem lv_pos {l : List Int} (h : Dg l) (hl : l ≠ []) (h0 : l.getD (l.length - 1) 0 ≠ 48) : lv l ≠ 0 := by
  induction l with
  | nil => exact absurd rfl hl
  | cons x xs ih =>
    obtain ⟨hx, hxs⟩ := Dg_cons.1 h
    rw [lv]
    by_cases e : xs = []
    · subst e
      simp at h0
      simp [lv]
      omega
    · have hne : xs.length ≠ 0 := fun z => e (List.length_eq_zero_iff.1 z)
      have := ih hxs e (by
        rw [List.length_cons, show xs.length + 1 - 1 = (xs.length - 1) + 1 by omega, List.getD_cons_succ] at h0
        exact h0)
      omega
theorem dl_lv {l : List Int} (h : Dg l) (h0 : l = [] ∨ l.getD (l.length - 1) 0 ≠ 48) : l = dl (lv l) := by
  induction l with
  | nil => rw [lv, dl_zero]
  | cons x xs ih =>
    obtain ⟨hx, hxs⟩ := Dg_cons.1 h
    have hn : lv (x :: xs) ≠ 0 := lv_pos h (by simp) (h0.resolve_left (by simp))
    have hxs0 : xs = [] ∨ xs.getD (xs.length - 1) 0 ≠ 48 := by
      by_cases e : xs = []
      · exact .inl e
      · have hne : xs.length ≠ 0 := fun z => e (List.length_eq_zero_iff.1 z)
        refine .inr ?_
        have := h0.resolve_left (by simp)
        rw [List.length_cons, show xs.length + 1 - 1 = (xs.length - 1) + 1 by omega, List.getD_cons_succ] at this
        exact this
    rw [dl_pos hn]
    have e1 : lv (x :: xs) % 10 = (x - 48).toNat := by rw [lv]; omega
    have e2 : lv (x :: xs) / 10 = lv xs := by rw [lv]; omega
    rw [e1, e2, ← ih hxs hxs0]
    congr 1
    omega
def tx (n : Nat) : List Int := if n = 0 then [48] else (dl n).reverse
theorem Dg_tx (n : Nat) : Dg (tx n) := by
  unfold tx
  split
  · rw [Dg_cons]; exact ⟨by omega, Dg_nil⟩
  · exact Dg_rev (Dg_dl n)
theorem foldl_pv (l : List Int) : ∀ v, l.foldl (fun v x => 10 * v + (x - 48).toNat) v = v * 10 ^ l.length + pv l := by
  unfold pv
  induction l with
  | nil => intro v; simp
  | cons x xs ih =>
    intro v
    rw [List.foldl_cons, List.foldl_cons, ih, ih (10 * 0 + (x - 48).toNat), List.length_cons, Nat.pow_succ, Nat.add_mul, Nat.mul_zero, Nat.zero_add, Nat.mul_comm 10 v, Nat.mul_assoc, Nat.mul_comm 10]
    omega
theorem pv_app (a b : List Int) : pv (a ++ b) = pv a * 10 ^ b.length + pv b := by
  have : pv (a ++ b) = b.foldl (fun v x => 10 * v + (x - 48).toNat) (pv a) := by unfold pv; rw [List.foldl_append]
  rw [this, foldl_pv]
theorem pv_nil : pv [] = 0 := rfl
theorem pv_one (x : Int) : pv [x] = (x - 48).toNat := by unfold pv; simp
theorem pv_rev (l : List Int) : pv l.reverse = lv l := by
  induction l with
  | nil => rfl
  | cons x xs ih => rw [List.reverse_cons, pv_app, ih, pv_one, lv, List.length_singleton]; omega
theorem pv_tx (n : Nat) : pv (tx n) = n := by
  unfold tx
  split
  · rename_i h; rw [h]; rfl
  · rw [pv_rev, lv_dl]
theorem pv_lt {l : List Int} (h : Dg l) : pv l < 10 ^ l.length := by
  have := lv_lt (Dg_rev h)
  rw [← pv_rev, List.reverse_reverse, List.length_reverse] at this
  exact this
theorem tx_pos (n : Nat) : 0 < (tx n).length := by
  unfold tx
  split
  · simp
  · rename_i h
    rw [List.length_reverse, dl_pos h]
    simp
theorem dl_len_le {n k : Nat} (h : n < 10 ^ k) : (dl n).length ≤ k := by
  induction k generalizing n with
  | zero => simp at h; subst h; rw [dl_zero]; simp
  | succ k ih =>
    by_cases h0 : n = 0
    · subst h0; rw [dl_zero]; simp
    · rw [dl_pos h0, List.length_cons]
      have := @ih (n / 10) (by rw [Nat.pow_succ] at h; omega)
      omega
theorem tx_len_le {n k : Nat} (h : n < 10 ^ k) (hk : 0 < k) : (tx n).length ≤ k := by
  unfold tx
  split
  · show 1 ≤ k; omega
  · rw [List.length_reverse]; exact dl_len_le h
end Go.Proofs.YtjgmmaeafodpmaaGreatDoor.Lib
set_option linter.unusedVariables false
set_option linter.unusedSimpArgs false
namespace Go.Proofs.YtjgmmaeafodpmaaGreatDoor.Lib
open Go.RowKit Go.Proofs.YtjgmmaeafodpmaaGreatDoorW.PrintWords Go.Proofs.YtjgmmaeafodpmaaGreatDoorW.PrintMore Go.Proofs.YtjgmmaeafodpmaaGreatDoor.P
theorem list_ext_getD {a b : List Int} (hl : a.length = b.length) (h : ∀ i, i < a.length → a.getD i 0 = b.getD i 0) : a = b := by
  apply List.ext_getElem? 
  intro i
  by_cases hi : i < a.length
  · have := h i hi
    rw [List.getD_eq_getElem?_getD, List.getD_eq_getElem?_getD, List.getElem?_eq_getElem hi, List.getElem?_eq_getElem (by omega), Option.getD_some, Option.getD_some] at this
    rw [List.getElem?_eq_getElem hi, List.getElem?_eq_getElem (by omega), this]
  · rw [List.getElem?_eq_none (by omega), List.getElem?_eq_none (by omega)]
theorem get_set_eq (l : List Int) (i : Nat) (x : Int) (h : i < l.length) : (l.set i x).getD i 0 = x := by
  rw [List.getD_eq_getElem?_getD, List.getElem?_set_self h]; rfl
theorem get_rev (l : List Int) {i : Nat} (h : i < l.length) : l.reverse.getD i 0 = l.getD (l.length - 1 - i) 0 := by
  rw [List.getD_eq_getElem?_getD, List.getD_eq_getElem?_getD, List.getElem?_reverse h]
theorem swap_step {l x : List Int} {i j : Nat} (hl : x.length = l.length) (hij : i < j) (hj : i + j + 1 = l.length)
    (hx : ∀ t, t < l.length → x.getD t 0 = if t < i ∨ j < t then l.getD (l.length - 1 - t) 0 else l.getD t 0) :
    ∀ t, t < l.length → ((x.set i (x.getD j 0)).set j (x.getD i 0)).getD t 0 = if t < i + 1 ∨ j - 1 < t then l.getD (l.length - 1 - t) 0 else l.getD t 0 := by
  intro t ht
  by_cases h1 : t = j
  · subst h1
    rw [get_set_eq _ _ _ (by rw [List.length_set]; omega), hx i (by omega), if_neg (by omega), if_pos (by omega)]
    congr 1
    omega
  · rw [get_set_ne _ _ (fun h => h1 h.symm)]
    by_cases h2 : t = i
    · subst h2
      rw [get_set_eq _ _ _ (by omega), hx j (by omega), if_neg (by omega), if_pos (by omega)]
      congr 1
      omega
    · rw [get_set_ne _ _ (fun h => h2 h.symm), hx t ht]
      by_cases h3 : t < i ∨ j < t
      · rw [if_pos h3, if_pos (by omega)]
      · rw [if_neg h3, if_neg (by omega)]
theorem swap_end {l x : List Int} {i : Nat} {j : Int} (hl : x.length = l.length) (hij : ¬ (i : Int) < j) (hj : (i : Int) + j + 1 = l.length)
    (hx : ∀ t, t < l.length → x.getD t 0 = if t < i ∨ j < (t : Int) then l.getD (l.length - 1 - t) 0 else l.getD t 0) : x = l.reverse := by
  refine list_ext_getD (by rw [List.length_reverse]; exact hl) fun t ht => ?_
  rw [get_rev l (by omega), hx t (by omega)]
  by_cases h : t < i ∨ j < (t : Int)
  · rw [if_pos h]
  · rw [if_neg h]
    congr 1
    omega
theorem Rev_to {l : List Int} (hl : l.length ≤ 1000000) : Ev (fun k => slices_Reverse_byte_byte.f k l) l.reverse := by
  have key : ∀ (d i : Nat) (j : Int) (x : List Int), j ≤ (i : Int) + d → x.length = l.length → (i : Int) + j + 1 = l.length →
      (∀ t, t < l.length → x.getD t 0 = if t < i ∨ j < (t : Int) then l.getD (l.length - 1 - t) 0 else l.getD t 0) → Ev (fun k => slices_Reverse_byte_byte.l0 k x (i : Int) j) l.reverse := by
    intro d
    induction d using Nat.strongRecOn with
    | ind d ih =>
      intro i j x hd hxl hij hx
      by_cases hlt : (i : Int) < j
      · obtain ⟨m, rfl⟩ := Int.eq_ofNat_of_zero_le (show 0 ≤ j by omega)
        refine Ev.succ ?_
        simp only [slices_Reverse_byte_byte.l0, rd_nat, Int.toNat_natCast]
        rw [w64_succ (by omega), w64 (x := (m : Int) - 1) (by omega) (by omega)]
        refine Ev.ifp hlt (Ev.ifp (by omega) (Ev.ifp (by omega) (Ev.ifp (by omega) (Ev.ifp (by omega) ?_))))
        have hs := swap_step hxl (show i < m by omega) (by omega) (fun t ht => by
          have := hx t ht
          rw [this]
          by_cases c : t < i ∨ m < t
          · rw [if_pos c, if_pos (by omega)]
          · rw [if_neg c, if_neg (by omega)])
        refine ih (d - 2) (by omega) (i + 1) ((m : Int) - 1) _ (by omega) (by rw [List.length_set, List.length_set]; exact hxl) (by omega) (fun t ht => ?_)
        rw [hs t ht]
        by_cases c : t < i + 1 ∨ m - 1 < t
        · rw [if_pos c, if_pos (by omega)]
        · rw [if_neg c, if_neg (by omega)]
      · refine Ev.succ ?_
        simp only [slices_Reverse_byte_byte.l0]
        rw [swap_end hxl hlt hij hx]
        exact Ev.ifn hlt (Ev.now _)
  unfold slices_Reverse_byte_byte.f
  rw [w64 (x := (l.length : Int) - 1) (by omega) (by omega)]
  exact key l.length 0 ((l.length : Int) - 1) l (by omega) rfl (by omega) (fun t ht => by rw [if_neg (by omega)])
theorem digs_step (d : List Int) (hd : Dg d) (x : Nat) : Dg (d ++ [((48 + x % 10 : Nat) : Int)]) ∧ lv (d ++ [((48 + x % 10 : Nat) : Int)]) = lv d + 10 ^ d.length * (x % 10) := by
  refine ⟨Dg_app.2 ⟨hd, by rw [Dg_cons]; exact ⟨by omega, Dg_nil⟩⟩, ?_⟩
  rw [lv_app]
  simp only [lv, Nat.mul_zero, Nat.add_zero]
  congr 2
  omega
theorem strip_last {l : List Int} (hd : Dg l) (h0 : l.length ≠ 0) (h : l.getD (l.length - 1) 0 = 48) : lv (l.take (l.length - 1)) = lv l := by
  have e := lv_app (l.take (l.length - 1)) (l.drop (l.length - 1))
  rw [List.take_append_drop] at e
  have e2 : l.drop (l.length - 1) = [48] := by
    rw [List.drop_eq_getElem_cons (by omega), List.drop_of_length_le (by omega)]
    rw [List.getD_eq_getElem?_getD, List.getElem?_eq_getElem (by omega), Option.getD_some] at h
    rw [h]
  rw [e2] at e
  simp [lv] at e
  exact e.symm
def T (n : Nat) : ByteArray := strOfNums (tx n)
theorem ns_T (n : Nat) : ns (T n) = tx n := ns_strOf (Dg_B8 (Dg_tx n))
theorem Text_strip : ∀ (m : Nat) (x : List Int), x.length = m → m ≤ 900000 → Dg x → Ev (fun k => digits_Text.l2 k x) (T (lv x)) := by
  intro m
  induction m with
  | zero =>
    intro x hx hm hd
    obtain rfl := List.length_eq_zero_iff.1 hx
    refine Ev.succ ?_
    simp only [digits_Text.l2]
    exact Ev.ifn (by decide) (Ev.ifp rfl (Ev.now _))
  | succ m ih =>
    intro x hx hm hd
    refine Ev.succ ?_
    simp only [digits_Text.l2]
    rw [hx, show (((m + 1 : Nat) : Int) - 1) = (m : Int) by omega, w64 (x := (m : Int)) (by omega) (by omega), rd_nat, Int.toNat_natCast]
    refine Ev.ifp (by omega) (Ev.ifp (by omega) (Ev.ifp (by omega) ?_))
    by_cases c : x.getD m 0 = 48
    · have := strip_last hd (by omega) (by rw [hx]; exact c)
      rw [hx] at this
      have h2 := ih (x.take m) (by rw [List.length_take]; omega) (by omega) (Dg_take hd _)
      rw [show m + 1 - 1 = m by omega] at this
      rw [this] at h2
      exact Ev.ifp c (Ev.ifp (by omega) h2)
    · have e := dl_lv hd (.inr (by rw [hx]; exact c))
      have hn : lv x ≠ 0 := fun z => by rw [z, dl_zero] at e; rw [e] at hx; simp at hx
      refine Ev.ifn c (Ev.ifn (by omega) (Ev.bind (Rev_to (by omega)) ?_))
      unfold T tx
      rw [if_neg hn, ← e]
      exact Ev.now _
theorem tab9 : rd tab0_ 9 = 1000000000 := rfl
theorem Text_to {m n : Nat} {a : List Int} (sa : S m a) (hm : m ≤ 3000) (h : V a = n) : Ev (fun k => digits_Text.f k a) (T n) := by
  have hn : n < Bp m := h ▸ sa.v
  have inner : ∀ (d i r : Nat) (x q : List Int) (N : Nat), 9 = i + d → Dg x → r < 1000000000 → x.length + d ≤ 800000 → (∀ y : List Int, Dg y → y.length = x.length + d → lv y = lv x + 10 ^ x.length * (r % 10 ^ d) → Ev (fun k => digits_Text.l0 k q y) (T N)) →
      Ev (fun k => digits_Text.l1 k x q (r : Int) (i : Int)) (T N) := by
    intro d
    induction d with
    | zero =>
      intro i r x q N hi hd hr hl hy
      refine Ev.succ ?_
      simp only [digits_Text.l1]
      exact Ev.ifn (by omega) (hy x hd (by omega) (by rw [Nat.pow_zero, Nat.mod_one, Nat.mul_zero, Nat.add_zero]))
    | succ d ih =>
      intro i r x q N hi hd hr hl hy
      obtain ⟨s1, s2⟩ := digs_step x hd r
      refine Ev.succ ?_
      simp only [digits_Text.l1]
      rw [Int.tmod_eq_emod_of_nonneg (a := (r : Int)) (by omega), Int.tdiv_eq_ediv_of_nonneg (a := (r : Int)) (by omega), show (48 + (r : Int) % 10) % 256 = ((48 + r % 10 : Nat) : Int) by omega, show (r : Int) / 10 % 4294967296 = ((r / 10 : Nat) : Int) by omega, w64_succ (by omega)]
      refine Ev.ifp (by omega) (Ev.ifp (by omega) ?_)
      refine ih (i + 1) (r / 10) _ q N (by omega) s1 (by omega) (by rw [List.length_append, List.length_singleton]; omega) (fun y hyd hyl hyv => hy y hyd (by rw [hyl, List.length_append, List.length_singleton]; omega) ?_)
      rw [hyv, s2, List.length_append, List.length_singleton, Nat.pow_succ, Nat.pow_succ, Nat.mul_comm (10 ^ d) 10, Nat.mod_mul, Nat.mul_add, Nat.mul_assoc]
      omega
  have outer : ∀ (B q : Nat) (x : List Int) (N : Nat), q < 1000000000 ^ B → q < Bp m → Dg x → x.length + 9 * B ≤ 800000 → lv x + 10 ^ x.length * q = N → Ev (fun k => digits_Text.l0 k (L q) x) (T N) := by
    intro B
    induction B with
    | zero =>
      intro q x N hq hqm hd hl hv
      have q0 : q = 0 := by rw [Nat.pow_zero] at hq; omega
      subst q0
      rw [Nat.mul_zero, Nat.add_zero] at hv
      rw [L_zero, ← hv]
      refine Ev.succ ?_
      simp only [digits_Text.l0]
      exact Ev.ifn (by decide) (Text_strip x.length x rfl (by omega) hd)
    | succ B ih =>
      intro q x N hq hqm hd hl hv
      by_cases q0 : q = 0
      · subst q0
        rw [Nat.mul_zero, Nat.add_zero] at hv
        rw [L_zero, ← hv]
        refine Ev.succ ?_
        simp only [digits_Text.l0]
        exact Ev.ifn (by decide) (Text_strip x.length x rfl (by omega) hd)
      · have hlq : (L q).length ≠ 0 := fun e => q0 (L_len_zero.1 e)
        refine Ev.succ ?_
        simp only [digits_Text.l0]
        rw [tab9]
        refine Ev.ifp (by omega) (Ev.ifp (by decide) (Ev.bind (QSmall_to (S_L hqm) (by omega) (by omega) (by omega) (n := q / 1000000000) (x := q % 1000000000) (by rw [V_L]; rfl) (by rw [V_L]; rfl)) ?_))
        refine inner 9 0 (q % 1000000000) x (L (q / 1000000000)) N rfl hd (Nat.mod_lt _ (by omega)) (by omega) (fun y hyd hyl hyv => ?_)
        refine ih (q / 1000000000) y N (by rw [Nat.pow_succ] at hq; exact Nat.div_lt_of_lt_mul (by rw [Nat.mul_comm]; exact hq)) (lt_le hqm (Nat.div_le_self _ _)) hyd (by omega) ?_
        rw [hyv, hyl, Nat.pow_add, show q % 1000000000 % 10 ^ 9 = q % 1000000000 from Nat.mod_eq_of_lt (Nat.mod_lt _ (by omega)), show (10 : Nat) ^ 9 = 1000000000 from rfl, ← hv, Nat.mul_assoc, Nat.add_assoc, ← Nat.mul_add]
        congr 2
        omega
  unfold digits_Text.f
  refine Ev.bind (Trim_to sa (by omega) h) ?_
  refine outer (2 * m) n [] n ?_ hn Dg_nil (by simp; omega) (by simp [lv])
  refine Nat.lt_of_lt_of_le hn ?_
  unfold Bp
  rw [Nat.pow_mul]
  exact Nat.pow_le_pow_left (by decide) _
end Go.Proofs.YtjgmmaeafodpmaaGreatDoor.Lib
set_option linter.unusedVariables false
set_option linter.unusedSimpArgs false
namespace Go.Proofs.YtjgmmaeafodpmaaGreatDoor.Lib
open Go.RowKit Go.Proofs.YtjgmmaeafodpmaaGreatDoorW.PrintWords Go.Proofs.YtjgmmaeafodpmaaGreatDoorW.PrintMore Go.Proofs.YtjgmmaeafodpmaaGreatDoor.P
theorem take_snoc (b : List Int) {i : Nat} (h : i < b.length) : b.take (i + 1) = b.take i ++ [b.getD i 0] := by
  rw [List.take_succ_eq_append_getElem h, List.getD_eq_getElem?_getD, List.getElem?_eq_getElem h, Option.getD_some]
theorem pv_snoc (b : List Int) (x : Int) : pv (b ++ [x]) = pv b * 10 + (x - 48).toNat := by rw [pv_app, pv_one, List.length_singleton, Nat.pow_one]
theorem Dg_get {b : List Int} (h : Dg b) {i : Nat} (hi : i < b.length) : 48 ≤ b.getD i 0 ∧ b.getD i 0 ≤ 57 := by
  rw [List.getD_eq_getElem?_getD, List.getElem?_eq_getElem hi, Option.getD_some]
  exact h _ (List.getElem_mem hi)
theorem some_spec {s : ByteArray} (hl : s.size ≤ 9) {R : Int × Bool} (hy : Dg (ns s) → R = (((pv (ns s) : Nat) : Int), true)) (hn : ¬ Dg (ns s) → R = (0, false)) : Ev (fun k => digits_some.f k s) R := by
  have key : ∀ d i, s.size = i + d → Dg ((ns s).take i) → Ev (fun k => digits_some.l0 k s ((pv ((ns s).take i) : Nat) : Int) (s.size : Int) (i : Int)) R := by
    intro d
    induction d with
    | zero =>
      intro i hi hd
      have e : (ns s).take i = ns s := List.take_of_length_le (by rw [ns_len]; omega)
      rw [e] at hd ⊢
      refine Ev.succ ?_
      simp only [digits_some.l0]
      rw [hy hd]
      exact Ev.ifn (by omega) (Ev.now _)
    | succ d ih =>
      intro i hi hd
      have hlt : i < (ns s).length := by rw [ns_len]; omega
      have hb := ns_B8 s _ (show (ns s).getD i 0 ∈ ns s by rw [List.getD_eq_getElem?_getD, List.getElem?_eq_getElem hlt, Option.getD_some]; exact List.getElem_mem hlt)
      have hv := pv_lt hd
      rw [List.length_take, Nat.min_eq_left (by omega)] at hv
      have hv9 : pv ((ns s).take i) < 100000000 := Nat.lt_of_lt_of_le hv (Nat.pow_le_pow_right (n := 10) (by omega) (show i ≤ 8 by omega))
      have hsn := take_snoc (ns s) hlt
      have hps := pv_snoc ((ns s).take i) ((ns s).getD i 0)
      rw [← hsn] at hps
      have nope : ¬ (48 ≤ (ns s).getD i 0 ∧ (ns s).getD i 0 ≤ 57) → R = (0, false) := fun h => hn fun hd2 => h (Dg_get hd2 hlt)
      refine Ev.succ ?_
      simp only [digits_some.l0, bt_ns]
      refine Ev.ifp (by omega) (Ev.ifp (by omega) (Ev.ifp (by omega) ?_))
      by_cases h1 : (ns s).getD i 0 < 48
      · rw [nope (by omega)]
        exact Ev.ifp h1 (Ev.now _)
      · by_cases h2 : (ns s).getD i 0 > 57
        · rw [nope (by omega)]
          exact Ev.ifn h1 (Ev.ifp h2 (Ev.now _))
        · have := ih (i + 1) (by omega) (by rw [hsn, Dg_app]; exact ⟨hd, by rw [Dg_cons]; exact ⟨by omega, Dg_nil⟩⟩)
          rw [hps] at this
          rw [w64_succ (by omega), show (10 * ((pv ((ns s).take i) : Nat) : Int) % 4294967296 + ((ns s).getD i 0 - 48) % 256) % 4294967296 = ((pv ((ns s).take i) * 10 + ((ns s).getD i 0 - 48).toNat : Nat) : Int) by omega]
          exact Ev.ifn h1 (Ev.ifn h2 this)
  unfold digits_some.f
  exact key s.size 0 (by omega) (by rw [List.take_zero]; exact Dg_nil)
theorem tab_ten : ∀ n : Fin 10, rd tab0_ ((n.val : Nat) : Int) = ((10 ^ n.val : Nat) : Int) := by decide
theorem tab_at {n : Nat} (h : n ≤ 9) : rd tab0_ (n : Int) = ((10 ^ n : Nat) : Int) := tab_ten ⟨n, by omega⟩
theorem ten_Bp {j m : Nat} (h : j ≤ 8 * m) : 10 ^ j < Bp (m + 1) := by
  refine Nat.lt_of_le_of_lt (Nat.pow_le_pow_left (show 10 ≤ 2 ^ 4 by decide) j) ?_
  rw [← Nat.pow_mul]
  exact two_lt (by omega)
theorem ten9 {n : Nat} (h : n ≤ 9) : 10 ^ n < 4294967296 := Nat.lt_of_le_of_lt (Nat.pow_le_pow_right (by omega) h) (by decide)
theorem ns_front (s : ByteArray) (n : Nat) : ns (s.extract 0 n) = (ns s).take n := by rw [ns_extract, List.drop_zero, Nat.sub_zero]
theorem ns_rest (s : ByteArray) (n : Nat) : ns (s.extract n s.size) = (ns s).drop n := by
  rw [ns_extract, List.take_of_length_le]
  rw [List.length_drop, ns_len]; omega
theorem Parse_loop : ∀ len (s : ByteArray) (A j : Nat) (R : List Int × Bool), s.size = len → A < 10 ^ j → j + len ≤ 2000 → (Dg (ns s) → R = (L (A * 10 ^ len + pv (ns s)), true)) → (¬ Dg (ns s) → R = ([], false)) → Ev (fun k => digits_Parse.l0 k s (L A)) R := by
  intro len
  induction len using Nat.strongRecOn with
  | ind len ih =>
    intro s A j R hs hA hj hy hn
    refine Ev.succ ?_
    simp only [digits_Parse.l0]
    by_cases h0 : len = 0
    · have e : ns s = [] := List.length_eq_zero_iff.1 (by rw [ns_len]; omega)
      have := hy (by rw [e]; exact Dg_nil)
      rw [h0, e, Nat.pow_zero, Nat.mul_one, pv_nil, Nat.add_zero] at this
      rw [this]
      exact Ev.ifp (ns_nil_iff.2 e) (Ev.now _)
    · have hne : ¬ s.toList = ([] : List UInt8) := fun e => h0 (by rw [← hs, ← ns_len, ns_nil_iff.1 e]; rfl)
      obtain ⟨n, hnn⟩ : ∃ n, min 9 s.size = n := ⟨_, rfl⟩
      have e9 : mn 9 (s.size : Int) = (n : Int) := by rw [← hnn]; exact mn_nat 9 s.size
      have hn9 : n ≤ 9 := by omega
      have h10 := ten9 hn9
      rw [e9, Int.toNat_natCast, tab_at hn9]
      have hsz : (s.extract 0 n).size = n := by rw [ByteArray.size_extract]; omega
      have split : Dg (ns s) ↔ Dg ((ns s).take n) ∧ Dg ((ns s).drop n) := by rw [← Dg_app, List.take_append_drop]
      refine Ev.ifn hne (Ev.ifp (by omega) (Ev.ifp (by omega) ?_))
      by_cases hd : Dg ((ns s).take n)
      · refine Ev.bind (some_spec (R := (((pv ((ns s).take n) : Nat) : Int), true)) (by omega) (fun _ => by rw [ns_front]) (fun h => absurd (by rw [ns_front]; exact hd) h)) (Ev.ifp rfl ?_)
        have hpl := pv_lt hd
        rw [List.length_take, ns_len, Nat.min_eq_left (by omega)] at hpl
        have lA : A < Bp 251 := Nat.lt_trans hA (ten_Bp (m := 250) (by omega))
        have hA2 : A * 10 ^ n + pv ((ns s).take n) < 10 ^ (j + n) := by
          rw [Nat.pow_add]
          have := Nat.mul_le_mul_right (10 ^ n) (show A + 1 ≤ 10 ^ j from hA)
          rw [Nat.add_mul] at this
          omega
        have lA2 : A * 10 ^ n + pv ((ns s).take n) < Bp 251 := Nat.lt_trans hA2 (ten_Bp (m := 250) (by omega))
        rw [wu64 (x := ((pv ((ns s).take n) : Nat) : Int)) (by omega) (by omega)]
        refine Ev.ifp (show (n : Int) < ((10 : Nat) : Int) by omega) (Ev.bind (Small_to (S_L lA) (by omega) (by omega) (by omega) (n := A * 10 ^ n) (by rw [V_L, Int.toNat_natCast])) (Ev.bind (Of_to (by omega) (by omega) (n := pv ((ns s).take n)) (by rw [Int.toNat_natCast])) ?_))
        refine Ev.bind (Add_to (m := 251) (S_L (Nat.lt_of_le_of_lt (Nat.le_add_right _ _) lA2)) (S_L (Nat.lt_of_le_of_lt (Nat.le_add_left _ _) lA2)) (by omega) (n := A * 10 ^ n + pv ((ns s).take n)) (by rw [V_L, V_L])) ?_
        have hsz2 : (s.extract n s.size).size = len - n := by rw [ByteArray.size_extract]; omega
        refine ih (len - n) (by omega) (s.extract n s.size) _ (j + n) R hsz2 hA2 (by omega) (fun h => ?_) (fun h => ?_)
        · rw [ns_rest] at h
          rw [hy (split.2 ⟨hd, h⟩), ns_rest]
          have e := pv_app ((ns s).take n) ((ns s).drop n)
          rw [List.take_append_drop, List.length_drop, ns_len, hs] at e
          rw [e, Nat.add_mul, Nat.mul_assoc, ← Nat.pow_add, show n + (len - n) = len by omega, Nat.add_assoc]
        · rw [ns_rest] at h
          exact hn fun h2 => h (split.1 h2).2
      · rw [hn fun h => hd (split.1 h).1]
        exact Ev.bind (some_spec (R := (0, false)) (by omega) (fun h => absurd (by rw [ns_front] at h; exact h) hd) (fun _ => rfl)) (Ev.ifn (by decide) (Ev.now _))
theorem Parse_to {s : ByteArray} {n : Nat} (h0 : 0 < (ns s).length) (h1 : (ns s).length ≤ 2000) (hd : Dg (ns s)) (h : pv (ns s) = n) : Ev (fun k => digits_Parse.f k s) (L n, true) := by
  rw [ns_len] at h0 h1
  unfold digits_Parse.f
  refine Ev.ifn (fun e => by have := ns_nil_iff.1 e; rw [ns_size, this] at h0; simp at h0) ?_
  rw [decide_eq_false (show ¬ (s.size : Int) > 2000 by omega)]
  refine Ev.succ ?_
  simp only [digits_Parse.j0]
  have := Parse_loop s.size s 0 0 (L n, true) rfl (by decide) (by omega) (fun _ => by rw [Nat.zero_mul, Nat.zero_add, h]) (fun h2 => absurd hd h2)
  rw [L_zero] at this
  exact Ev.ifn (by decide) this
theorem Ten_loop : ∀ r j : Nat, j + r ≤ 2000 → Ev (fun k => digits_Ten.l0 k (r : Int) (L (10 ^ j))) (L (10 ^ (j + r)), true) := by
  intro r
  induction r using Nat.strongRecOn with
  | ind r ih =>
    intro j hj
    refine Ev.succ ?_
    simp only [digits_Ten.l0]
    by_cases h0 : r = 0
    · subst h0
      exact Ev.ifn (by omega) (Ev.now _)
    · obtain ⟨n, hnn⟩ : ∃ n, min r 9 = n := ⟨_, rfl⟩
      have e9 : mn (r : Int) 9 = (n : Int) := by rw [← hnn]; exact mn_nat r 9
      have hn9 : n ≤ 9 := by omega
      have h10 := ten9 hn9
      rw [e9, tab_at hn9, w64 (x := (r : Int) - 9) (by omega) (by omega)]
      refine Ev.ifp (by omega) (Ev.ifp (by omega) (Ev.ifp (show (n : Int) < ((10 : Nat) : Int) by omega) (Ev.bind (Small_to (S_L (ten_Bp (m := 250) (j := j) (by omega))) (by omega) (Int.natCast_nonneg _) (Int.ofNat_lt.2 h10) (n := 10 ^ (j + n)) (by rw [V_L, Int.toNat_natCast, Nat.pow_add])) ?_)))
      by_cases h9 : 9 ≤ r
      · have := ih (r - 9) (by omega) (j + n) (by omega)
        rw [show (((r - 9 : Nat) : Int)) = (r : Int) - 9 by omega, show j + n + (r - 9) = j + r by omega] at this
        exact this
      · rw [show j + r = j + n by omega]
        refine Ev.succ ?_
        simp only [digits_Ten.l0]
        exact Ev.ifn (by omega) (Ev.now _)
theorem Ten_to {n : Nat} (h : n ≤ 2000) : Ev (fun k => digits_Ten.f k (n : Int)) (L (10 ^ n), true) := by
  unfold digits_Ten.f
  rw [decide_eq_false (show ¬ (n : Int) > 2000 by omega)]
  refine Ev.ifn (by omega) (Ev.succ ?_)
  simp only [digits_Ten.j0]
  have := Ten_loop n 0 (by omega)
  rw [Nat.pow_zero, Nat.zero_add] at this
  exact Ev.ifn (by decide) (Ev.bind (Of_to (by omega) (by omega) (n := 1) rfl) this)
end Go.Proofs.YtjgmmaeafodpmaaGreatDoor.Lib
set_option linter.unusedVariables false
set_option linter.unusedSimpArgs false
namespace Go.Proofs.YtjgmmaeafodpmaaGreatDoor.Lib
open Go.RowKit Go.Proofs.YtjgmmaeafodpmaaGreatDoorW.PrintWords Go.Proofs.YtjgmmaeafodpmaaGreatDoorW.PrintMore Go.Proofs.YtjgmmaeafodpmaaGreatDoor.P
end Go.Proofs.YtjgmmaeafodpmaaGreatDoor.Lib
set_option linter.unusedVariables false
set_option linter.unusedSimpArgs false
namespace Go.Proofs.YtjgmmaeafodpmaaGreatDoor.Lib
open Go.RowKit Go.Proofs.YtjgmmaeafodpmaaGreatDoorW.PrintWords Go.Proofs.YtjgmmaeafodpmaaGreatDoorW.PrintMore Go.Proofs.YtjgmmaeafodpmaaGreatDoor.P
end Go.Proofs.YtjgmmaeafodpmaaGreatDoor.Lib
set_option linter.unusedVariables false
set_option linter.unusedSimpArgs false
namespace Go.Proofs.YtjgmmaeafodpmaaGreatDoor.Lib
open Go.RowKit Go.Proofs.YtjgmmaeafodpmaaGreatDoorW.PrintWords Go.Proofs.YtjgmmaeafodpmaaGreatDoorW.PrintMore Go.Proofs.YtjgmmaeafodpmaaGreatDoor.P
def rt : Nat → Nat
  | 0 => 0
  | n + 1 => if (rt n + 1) * (rt n + 1) ≤ n + 1 then rt n + 1 else rt n
section
variable {m p n x y q r : Nat} {l a b : List Int}
def ct (n : Nat) : Nat := if rt n * rt n = n then rt n else rt n + 1
end
end Go.Proofs.YtjgmmaeafodpmaaGreatDoor.Lib
set_option linter.unusedVariables false
set_option linter.unusedSimpArgs false
namespace Go.Proofs.YtjgmmaeafodpmaaGreatDoor.Lib
open Go.RowKit Go.Proofs.YtjgmmaeafodpmaaGreatDoorW.PrintWords Go.Proofs.YtjgmmaeafodpmaaGreatDoorW.PrintMore Go.Proofs.YtjgmmaeafodpmaaGreatDoor.P
section
variable {m p n x y q r : Nat} {l a b : List Int}
end
end Go.Proofs.YtjgmmaeafodpmaaGreatDoor.Lib
set_option linter.unusedVariables false
set_option linter.unusedSimpArgs false
namespace Go.Proofs.YtjgmmaeafodpmaaGreatDoor.Lib
open Go.RowKit Go.Proofs.YtjgmmaeafodpmaaGreatDoorW.PrintWords Go.Proofs.YtjgmmaeafodpmaaGreatDoorW.PrintMore Go.Proofs.YtjgmmaeafodpmaaGreatDoor.P
variable {m p : Nat} {a b l : List Int} {x y : Bool}
def vz (x : Bool) (l : List Int) : Int := if x then -(V l : Int) else (V l : Int)
def cz (z : Int) : Bool × List Int := (decide (z < 0), L z.natAbs)
theorem vz_t (l : List Int) : vz true l = -(V l : Int) := rfl
theorem vz_f (l : List Int) : vz false l = (V l : Int) := rfl
theorem vz_abs (x : Bool) (l : List Int) : (vz x l).natAbs = V l := by cases x <;> simp [vz]
theorem vz_cz (z : Int) : vz (cz z).1 (cz z).2 = z := by
  unfold cz vz
  by_cases h : z < 0
  · simp only [decide_eq_true h, if_true, V_L]; omega
  · simp only [decide_eq_false h, Bool.false_eq_true, if_false, V_L]; omega
theorem vz_not (x : Bool) (l : List Int) : vz (!x) l = -vz x l := by cases x <;> simp [vz]
theorem S_cz {z : Int} (h : z.natAbs < Bp m) : S m (cz z).2 := S_L h
theorem S_vz (x : Bool) (s : S m l) : (vz x l).natAbs < Bp m := by rw [vz_abs]; exact s.v
theorem cz_pos (n : Nat) : cz (n : Int) = (false, L n) := by
  unfold cz
  rw [decide_eq_false (by omega), Int.natAbs_natCast]
theorem L_gt {n : Nat} : decide (((L n).length : Int) > 0) = decide (0 < n) := by
  rw [decide_eq_decide]
  have := @L_len_zero n
  omega
theorem cz_of (x : Bool) (n : Nat) : (if x = true then (decide (((L n).length : Int) > 0), L n) else (false, L n)) = cz (if x then -(n : Int) else n) := by
  cases x
  · simp [cz_pos]
  · simp only [if_true, L_gt]
    unfold cz
    congr 1
    · rw [decide_eq_decide]; omega
    · congr 1; omega
theorem pick_ev {x : Bool} {n : Nat} {z : Int} (h : (if x then -(n : Int) else n) = z) : (fun _ : Nat => if x = true then some (decide (((L n).length : Int) > 0), L n) else some (false, L n)) = fun _ => some (cz z) := by
  funext k
  rw [← h, ← cz_of]
  cases x <;> rfl
theorem made_to (s : S m l) (hm : m ≤ 1000000) {z : Int} (h : vz x l = z) : Ev (fun k => whole_made.f k x l) (cz z) := by
  unfold whole_made.f
  have hl := s.2
  refine Ev.ifp (by omega) (Ev.ifp (by omega) ?_)
  rw [cpy_take _ _ (by omega), List.take_of_length_le (by omega)]
  refine Ev.bind (Trim_to s hm rfl) ?_
  rw [pick_ev (x := x) (n := V l) (z := z) h]
  exact Ev.now _
theorem wTrim_to (s : S m l) (hm : m ≤ 1000000) {z : Int} (h : vz x l = z) : Ev (fun k => whole_Trim.f k x l) (cz z) := by
  unfold whole_Trim.f
  exact Ev.bind (made_to s hm h) (Ev.now _)
theorem wNeg_to (s : S m l) (hm : m ≤ 1000000) {z : Int} (h : -vz x l = z) : Ev (fun k => whole_Neg.f k x l) (cz z) := by
  unfold whole_Neg.f
  exact Ev.bind (made_to s hm (by rw [vz_not]; exact h)) (Ev.now _)
theorem wOf_to {v : Int} (h0 : -9223372036854775808 ≤ v) (h1 : v ≤ 9223372036854775807) : Ev (fun k => whole_Of.f k v) (cz v) := by
  unfold whole_Of.f
  by_cases c : v < 0
  · have e : IntKind.u64.wrap (-(IntKind.u64.wrap v)) = -v := by simp only [IntKind.wrap_u64]; omega
    rw [e]
    refine Ev.ifp c (Ev.bind (Of_to (n := v.natAbs) (by omega) (by omega) (by omega)) ?_)
    refine Ev.bind (made_to (m := 2) (S_L (lt_num (by omega) (by omega))) (by omega) (z := v) ?_) (Ev.now _)
    rw [vz_t, V_L]; omega
  · have e : IntKind.u64.wrap v = v := by simp only [IntKind.wrap_u64]; omega
    rw [e]
    refine Ev.ifn c (Ev.bind (Of_to (n := v.natAbs) (by omega) (by omega) (by omega)) ?_)
    refine Ev.bind (made_to (m := 2) (S_L (lt_num (by omega) (by omega))) (by omega) (z := v) ?_) (Ev.now _)
    rw [vz_f, V_L]; omega
theorem cz1 (z : Int) : (cz z).1 = decide (z < 0) := rfl
theorem cz2 (z : Int) : (cz z).2 = L z.natAbs := rfl
theorem vz_if (x : Bool) (n : Nat) : vz x (L n) = if x then -(n : Int) else n := by cases x <;> simp [vz, V_L]
theorem wAdd_to (sa : S m a) (sb : S m b) (hm : m < 900000) {z : Int} (h : vz x a + vz y b = z) : Ev (fun k => whole_Add.f k x a y b) (cz z) := by
  unfold whole_Add.f
  have s1 : S m (cz (vz x a)).2 := S_cz (S_vz x sa)
  have s2 : S m (cz (vz y b)).2 := S_cz (S_vz y sb)
  have v1 : V (cz (vz x a)).2 = (vz x a).natAbs := V_L _
  have v2 : V (cz (vz y b)).2 = (vz y b).natAbs := V_L _
  refine Ev.bind (wTrim_to sa (by omega) rfl) (Ev.bind (wTrim_to sb (by omega) rfl) ?_)
  generalize vz x a = u at *
  generalize vz y b = w at *
  by_cases c : ((cz u).1 == (cz w).1) = true
  · refine Ev.ifp c (Ev.bind (Add_to s1 s2 (by omega) rfl) ?_)
    refine Ev.bind (made_to (m := m + 1) (S_L (lt_add s1.v s2.v (by omega))) (by omega) (z := z) ?_) (Ev.now _)
    simp only [cz1, beq_iff_eq, decide_eq_decide] at c
    rw [vz_if, v1, v2, cz1]
    by_cases d : u < 0
    · simp only [decide_eq_true d, if_true]; omega
    · simp only [decide_eq_false d, Bool.false_eq_true, if_false]; omega
  · refine Ev.ifn c ?_
    simp only [cz1, beq_iff_eq, decide_eq_decide] at c
    by_cases e : V (cz u).2 < V (cz w).2
    · refine Ev.bind (Sub_no s1 s2 (by omega) e) (Ev.ifn (by decide) (Ev.bind (Sub_to (n := w.natAbs - u.natAbs) s2 s1 (by omega) (by omega)) ?_))
      refine Ev.bind (made_to (m := m) (S_L (lt_le s2.v (by omega))) (by omega) (z := z) ?_) (Ev.now _)
      rw [vz_if, cz1]
      by_cases d : w < 0
      · simp only [decide_eq_true d, if_true]; omega
      · simp only [decide_eq_false d, Bool.false_eq_true, if_false]; omega
    · refine Ev.bind (Sub_to (n := u.natAbs - w.natAbs) s1 s2 (by omega) (by omega)) (Ev.ifp rfl ?_)
      refine Ev.bind (made_to (m := m) (S_L (lt_le s1.v (by omega))) (by omega) (z := z) ?_) (Ev.now _)
      rw [vz_if, cz1]
      by_cases d : u < 0
      · simp only [decide_eq_true d, if_true]; omega
      · simp only [decide_eq_false d, Bool.false_eq_true, if_false]; omega
theorem vz_mul (x y : Bool) (a b : List Int) : vz (x != y) (L (V a * V b)) = vz x a * vz y b := by
  rw [vz_if]
  cases x <;> cases y <;> simp [vz, Int.mul_neg, Int.neg_mul]
theorem wMul_to (sa : S m a) (sb : S p b) (hm : m + p ≤ 1000000) {z : Int} (h : vz x a * vz y b = z) : Ev (fun k => whole_Mul.f k x a y b) (cz z) := by
  unfold whole_Mul.f
  refine Ev.bind (Mul_to sa sb hm rfl) ?_
  exact Ev.bind (made_to (m := m + p) (S_L (lt_mul sa.v sb.v (by omega))) (by omega) (by rw [vz_mul]; exact h)) (Ev.now _)
def cmpZ (u w : Int) : Int := if u < w then -1 else if w < u then 1 else 0
theorem wCmp_to (sa : S m a) (sb : S m b) (hm : m ≤ 1000000) {c : Int} (h : cmpZ (vz x a) (vz y b) = c) : Ev (fun k => whole_Cmp.f k x a y b) c := by
  unfold whole_Cmp.f
  have s1 : S m (cz (vz x a)).2 := S_cz (S_vz x sa)
  have s2 : S m (cz (vz y b)).2 := S_cz (S_vz y sb)
  have v1 : V (cz (vz x a)).2 = (vz x a).natAbs := V_L _
  have v2 : V (cz (vz y b)).2 = (vz y b).natAbs := V_L _
  refine Ev.bind (wTrim_to sa (by omega) rfl) (Ev.bind (wTrim_to sb (by omega) rfl) ?_)
  generalize vz x a = u at *
  generalize vz y b = w at *
  subst h
  have key : Ev (fun k => if (cz u).1 = true then (nat_Cmp.f k (cz w).2 (cz u).2).bind fun t297 => some t297 else (nat_Cmp.f k (cz u).2 (cz w).2).bind fun t298 => some t298) (cmpZ u w) ∨ (u < 0 ∧ ¬ w < 0) ∨ (w < 0 ∧ ¬ u < 0) := by
    by_cases c1 : u < 0
    · by_cases c2 : w < 0
      · refine .inl (Ev.ifp (decide_eq_true c1) (Ev.bind (Cmp_to s2 s1 hm rfl) ?_))
        have : cmpI (V (cz w).2) (V (cz u).2) = cmpZ u w := by
          rw [v1, v2]; unfold cmpI cmpZ
          split <;> split <;> (try split) <;> (try split) <;> omega
        rw [this]; exact Ev.now _
      · exact .inr (.inl ⟨c1, c2⟩)
    · by_cases c2 : w < 0
      · exact .inr (.inr ⟨c2, c1⟩)
      · refine .inl (Ev.ifn (by rw [cz1, decide_eq_false c1]; decide) (Ev.bind (Cmp_to s1 s2 hm rfl) ?_))
        have : cmpI (V (cz u).2) (V (cz w).2) = cmpZ u w := by
          rw [v1, v2]; unfold cmpI cmpZ
          split <;> split <;> (try split) <;> (try split) <;> omega
        rw [this]; exact Ev.now _
  have j1 : ∀ q : Bool, (q = true ↔ (w < 0 ∧ ¬ u < 0)) → ¬ (u < 0 ∧ ¬ w < 0) → Ev (fun k => whole_Cmp.j1 k q (cz u).1 (cz u).2 (cz w).1 (cz w).2) (cmpZ u w) := fun q hq hn => by
    refine Ev.succ ?_
    simp only [whole_Cmp.j1]
    by_cases c : q = true
    · refine Ev.ifp c ?_
      have := hq.1 c
      rw [show cmpZ u w = 1 by unfold cmpZ; rw [if_neg (by omega), if_pos (by omega)]]
      exact Ev.now _
    · refine Ev.ifn c ?_
      rcases key with k | k | k
      · exact k
      · exact absurd k hn
      · exact absurd (hq.2 k) c
  have j0 : ∀ q : Bool, (q = true ↔ (u < 0 ∧ ¬ w < 0)) → Ev (fun k => whole_Cmp.j0 k q (cz u).1 (cz u).2 (cz w).1 (cz w).2) (cmpZ u w) := fun q hq => by
    refine Ev.succ ?_
    simp only [whole_Cmp.j0]
    by_cases c : q = true
    · refine Ev.ifp c ?_
      have := hq.1 c
      rw [show cmpZ u w = -1 by unfold cmpZ; rw [if_pos (by omega)]]
      exact Ev.now _
    · refine Ev.ifn c ?_
      have hn : ¬ (u < 0 ∧ ¬ w < 0) := fun h => c (hq.2 h)
      by_cases d : w < 0
      · exact Ev.ifp (decide_eq_true d) (j1 _ (by simp [cz1, d]) hn)
      · exact Ev.ifn (by rw [cz1, decide_eq_false d]; decide) (j1 _ (by simp [d]) hn)
  by_cases d : u < 0
  · exact Ev.ifp (decide_eq_true d) (j0 _ (by simp [cz1, d]))
  · exact Ev.ifn (by rw [cz1, decide_eq_false d]; decide) (j0 _ (by simp [d]))
def TZ (z : Int) : ByteArray := if z < 0 then (⟨#[45]⟩ : ByteArray) ++ T z.natAbs else T z.natAbs
theorem T_size {n : Nat} (h : n < Bp m) (hm : m ≤ 3000) : (T n).size ≤ 100000 := by
  rw [ns_size, ns_T]
  refine Nat.le_trans (tx_len_le (k := 10 * m + 1) ?_ (by omega)) (by omega)
  refine Nat.lt_of_lt_of_le h ?_
  unfold Bp
  calc 4294967296 ^ m ≤ (10 ^ 10) ^ m := Nat.pow_le_pow_left (by decide) m
    _ = 10 ^ (10 * m) := by rw [Nat.pow_mul]
    _ ≤ 10 ^ (10 * m + 1) := Nat.pow_le_pow_right (by omega) (by omega)
theorem wText_to (s : S m l) (hm : m ≤ 3000) {z : Int} (h : vz x l = z) : Ev (fun k => whole_Text.f k x l) (TZ z) := by
  unfold whole_Text.f
  have s1 : S m (cz (vz x l)).2 := S_cz (S_vz x s)
  have hv : V (cz (vz x l)).2 = (vz x l).natAbs := V_L _
  refine Ev.bind (wTrim_to s (by omega) rfl) ?_
  rw [h] at s1 hv ⊢
  by_cases c : z < 0
  · refine Ev.ifp (decide_eq_true c) (Ev.bind (Text_to s1 hm hv) (Ev.ifp ?_ ?_))
    · have := T_size (m := m) (n := z.natAbs) (by rw [← hv]; exact s1.v) hm; omega
    · rw [show TZ z = (⟨#[45]⟩ : ByteArray) ++ T z.natAbs by unfold TZ; rw [if_pos c]]; exact Ev.now _
  · refine Ev.ifn (by rw [cz1, decide_eq_false c]; decide) (Ev.bind (Text_to s1 hm hv) ?_)
    rw [show TZ z = T z.natAbs by unfold TZ; rw [if_neg c]]; exact Ev.now _
theorem rMake_to (s : S m l) (hm : m ≤ 1000000) {z : Int} (h : vz x l = z) : Ev (fun k => steelyardref06_Make.f k x l) (cz z) := by
  unfold steelyardref06_Make.f
  refine Ev.bind (rTrim_to s hm rfl) ?_
  rw [pick_ev (x := x) (n := V l) (z := z) h]
  exact Ev.now _
theorem rZTrim_to (s : S m l) (hm : m ≤ 1000000) {z : Int} (h : vz x l = z) : Ev (fun k => steelyardref06_Trim.f k x l) (cz z) := by
  unfold steelyardref06_Trim.f
  exact Ev.bind (rMake_to s hm h) (Ev.now _)
theorem rZOf_to {v : Int} (h0 : -9223372036854775808 ≤ v) (h1 : v ≤ 9223372036854775807) : Ev (fun k => steelyardref06_Of.f k v) (cz v) := by
  unfold steelyardref06_Of.f
  by_cases c : v < 0
  · have e : IntKind.u64.wrap ((IntKind.u64.wrap (wrap64 (-(wrap64 (v + 1))))) + 1) = -v := by
      rw [w64 (x := v + 1) (by omega) (by omega), w64 (by omega) (by omega)]
      simp only [IntKind.wrap_u64]; omega
    rw [e]
    refine Ev.ifp c (Ev.bind (rOf_to (n := v.natAbs) (by omega) (by omega) (by omega)) ?_)
    refine Ev.bind (rMake_to (m := 2) (S_L (lt_num (by omega) (by omega))) (by omega) (z := v) ?_) (Ev.now _)
    rw [vz_t, V_L]; omega
  · have e : IntKind.u64.wrap v = v := by simp only [IntKind.wrap_u64]; omega
    rw [e]
    refine Ev.ifn c (Ev.bind (rOf_to (n := v.natAbs) (by omega) (by omega) (by omega)) ?_)
    refine Ev.bind (rMake_to (m := 2) (S_L (lt_num (by omega) (by omega))) (by omega) (z := v) ?_) (Ev.now _)
    rw [vz_f, V_L]; omega
theorem rZMul_to (sa : S m a) (sb : S p b) (hm : m + p < 300000) {z : Int} (h : vz x a * vz y b = z) : Ev (fun k => steelyardref06_Mul.f k x a y b) (cz z) := by
  unfold steelyardref06_Mul.f
  refine Ev.bind (rZTrim_to sa (by omega) rfl) (Ev.bind (rZTrim_to sb (by omega) rfl) (Ev.bind (rMul_to sa sb hm rfl) ?_))
  refine Ev.bind (rMake_to (m := m + p) (S_L (lt_mul sa.v sb.v (by omega))) (by omega) (z := z) ?_) (Ev.now _)
  rw [vz_if, cz1, cz1, ← h]
  have e1 := vz_abs x a
  have e2 := vz_abs y b
  have e : ((V a * V b : Nat) : Int) = (vz x a).natAbs * (vz y b).natAbs := by rw [e1, e2]; simp
  rw [e]
  generalize vz x a = u
  generalize vz y b = w
  by_cases c1 : u < 0 <;> by_cases c2 : w < 0
  · rw [decide_eq_true c1, decide_eq_true c2]
    simp only [bne_self_eq_false, Bool.false_eq_true, if_false]
    rw [show (u.natAbs : Int) = -u by omega, show (w.natAbs : Int) = -w by omega, Int.neg_mul_neg]
  · rw [decide_eq_true c1, decide_eq_false c2]
    simp only [show (true != false) = true from rfl, if_true]
    rw [show (u.natAbs : Int) = -u by omega, show (w.natAbs : Int) = w by omega, Int.neg_mul, Int.neg_neg]
  · rw [decide_eq_false c1, decide_eq_true c2]
    simp only [show (false != true) = true from rfl, if_true]
    rw [show (u.natAbs : Int) = u by omega, show (w.natAbs : Int) = -w by omega, Int.mul_neg, Int.neg_neg]
  · rw [decide_eq_false c1, decide_eq_false c2]
    simp only [bne_self_eq_false, Bool.false_eq_true, if_false]
    rw [show (u.natAbs : Int) = u by omega, show (w.natAbs : Int) = w by omega]
end Go.Proofs.YtjgmmaeafodpmaaGreatDoor.Lib
set_option linter.unusedVariables false
set_option linter.unusedSimpArgs false
namespace Go.Proofs.YtjgmmaeafodpmaaGreatDoor.Lib
open Go.RowKit Go.Proofs.YtjgmmaeafodpmaaGreatDoorW.PrintWords Go.Proofs.YtjgmmaeafodpmaaGreatDoorW.PrintMore Go.Proofs.YtjgmmaeafodpmaaGreatDoor.P
theorem Dg_dec (l : List Int) : Dg l ↔ l.all (fun x => decide (48 ≤ x) && decide (x ≤ 57)) = true := by
  simp [Dg, List.all_eq_true]
theorem toList_T {n : Nat} {l : List UInt8} (h : tx n = l.map fun b => (b.toNat : Int)) : (T n).toList = l := by
  rw [ByteArray.toList_eq]
  unfold T
  rw [strOfNums_data, h, List.map_map]
  conv => rhs; rw [← List.map_id l]
  refine List.map_congr_left fun x _ => ?_
  simp
end Go.Proofs.YtjgmmaeafodpmaaGreatDoor.Lib
set_option linter.unusedVariables false
set_option linter.unusedSimpArgs false
namespace Go.Proofs.YtjgmmaeafodpmaaGreatDoor.Lib
open Go.RowKit Go.Proofs.YtjgmmaeafodpmaaGreatDoorW.PrintWords Go.Proofs.YtjgmmaeafodpmaaGreatDoorW.PrintMore Go.Proofs.YtjgmmaeafodpmaaGreatDoor.P
variable {m p : Nat} {a b l : List Int} {x y : Bool}
theorem keepInt_to (sa : S m a) (hm : m ≤ 1000000) (h : (x, a) = (y, b)) : Ev (fun k => steelyardkeep_Int.f k x a y b) true := by
  obtain ⟨rfl, rfl⟩ := Prod.mk.injEq .. ▸ h
  unfold steelyardkeep_Int.f
  exact Ev.ifp (by simp) (Ev.bind (keep_to sa hm rfl) (Ev.now _))
theorem na_add {u w : Int} {m q : Nat} (h : u.natAbs < Bp m) (k : w.natAbs < Bp m) (l : m < q) : (u + w).natAbs < Bp q := Nat.lt_of_le_of_lt (Int.natAbs_add_le _ _) (lt_add h k l)
theorem na_mul {u w : Int} {m p q : Nat} (h : u.natAbs < Bp m) (k : w.natAbs < Bp p) (l : m + p ≤ q) : (u * w).natAbs < Bp q := by rw [Int.natAbs_mul]; exact lt_mul h k l
theorem na_neg {u : Int} {m : Nat} (h : u.natAbs < Bp m) : (-u).natAbs < Bp m := by rw [Int.natAbs_neg]; exact h
theorem keepCz_to {z w : Int} (hz : z.natAbs < Bp m) (hm : m ≤ 1000000) (h : z = w) : Ev (fun k => steelyardkeep_Int.f k (cz z).1 (cz z).2 (cz w).1 (cz w).2) true :=
  keepInt_to (S_cz hz) hm (by rw [h])
def sg (s : ByteArray) : Bool := decide (0 < s.size) && decide (bt s 0 = 45)
def rs (s : ByteArray) : ByteArray := if sg s = true then s.extract 1 s.size else s
theorem cut_spec (s : ByteArray) : strings_CutPrefix.f s (⟨#[45]⟩ : ByteArray) = some (rs s, sg s) := by
  unfold strings_CutPrefix.f stringslite_CutPrefix.f stringslite_HasPrefix.f
  have e1 : ((⟨#[45]⟩ : ByteArray).size : Int) = 1 := rfl
  simp only [e1]
  by_cases h : 0 < s.size
  · have h1 : (s.size : Int) ≥ 1 := by omega
    have h2 : (1 : Int) ≤ (s.size : Int) := by omega
    rw [if_pos h1, if_pos (by decide), if_pos h2]
    have hb : ((s.extract 0 (1 : Int).toNat).toList == (⟨#[45]⟩ : ByteArray).toList) = sg s := by
      have hn : 0 < (ns s).length := by rw [ns_len]; exact h
      have e2 : (ns s).take 1 = [(ns s).getD 0 0] := by
        cases hq : ns s with
        | nil => rw [hq] at hn; simp at hn
        | cons q r => simp
      rw [Bool.eq_iff_iff, beq_iff_eq, ns_eq_iff, show (1 : Int).toNat = 1 from rfl, ns_front, e2]
      have e3 : bt s 0 = (ns s).getD 0 0 := bt_ns s 0
      unfold sg
      rw [e3, decide_eq_true h, Bool.true_and, decide_eq_true_eq]
      rw [show ns (⟨#[45]⟩ : ByteArray) = [45] by decide]
      simp
    rw [hb]
    simp only [Option.bind_some]
    unfold rs
    cases sg s <;> simp [h2]
  · have h1 : ¬ (s.size : Int) ≥ 1 := by omega
    rw [if_neg h1]
    have : sg s = false := by unfold sg; rw [decide_eq_false h]; rfl
    simp [rs, this]
def pz (x : Bool) (R : List Int × Bool) : Bool × List Int × Bool :=
  if R.2 = true then (if x = true ∧ (R.1.length : Int) = 0 then (false, [], false) else ((cz (vz x R.1)).1, (cz (vz x R.1)).2, true)) else (false, [], false)
theorem wParse_ev {s : ByteArray} {R : List Int × Bool} (h : Ev (fun k => digits_Parse.f k (rs s)) R) (sR : S m R.1) (hm : m ≤ 1000000) : Ev (fun k => whole_Parse.f k s) (pz (sg s) R) := by
  unfold whole_Parse.f pz
  simp only [cut_spec, Option.bind_some]
  refine Ev.bind h ?_
  by_cases c : R.2 = true
  · rw [if_pos c]
    refine Ev.ifp c ?_
    by_cases d : sg s = true
    · refine Ev.ifp d ?_
      by_cases e : (R.1.length : Int) = 0
      · rw [if_pos ⟨d, e⟩]; exact Ev.ifp e (Ev.now _)
      · rw [if_neg (fun q => e q.2)]; exact Ev.ifn e (Ev.bind (made_to sR hm rfl) (Ev.now _))
    · rw [if_neg (fun q => d q.1)]; exact Ev.ifn d (Ev.bind (made_to sR hm rfl) (Ev.now _))
  · rw [if_neg c]; exact Ev.ifn c (Ev.now _)
theorem wParse_to {s : ByteArray} {n : Nat} {z : Int} (h0 : 0 < (ns (rs s)).length) (h1 : (ns (rs s)).length ≤ 2000) (hd : Dg (ns (rs s))) (h : pv (ns (rs s)) = n) (hn : sg s = true → n ≠ 0) (hz : (if sg s then -(n : Int) else n) = z) : Ev (fun k => whole_Parse.f k s) ((cz z).1, (cz z).2, true) := by
  have sL : S 251 (L n) := S_L (by rw [← h]; exact Nat.lt_trans (pv_lt hd) (ten_Bp (m := 250) (by omega)))
  have := wParse_ev (s := s) (Parse_to h0 h1 hd h) sL (by omega)
  unfold pz at this
  rw [if_pos rfl, if_neg (fun q => hn q.1 (L_len_zero.1 (by have h2 : ((L n).length : Int) = 0 := q.2; omega))), vz_if, hz] at this
  exact this
end Go.Proofs.YtjgmmaeafodpmaaGreatDoor.Lib
set_option linter.unusedVariables false
set_option linter.unusedSimpArgs false
namespace Go.Proofs.YtjgmmaeafodpmaaGreatDoor.Lib
open Go.RowKit Go.Proofs.YtjgmmaeafodpmaaGreatDoorW.PrintWords Go.Proofs.YtjgmmaeafodpmaaGreatDoorW.PrintMore Go.Proofs.YtjgmmaeafodpmaaGreatDoor.P
variable {m p : Nat} {a b l : List Int} {x y : Bool}
theorem cmpZ_lt {u w : Int} (h : u < w) : cmpZ u w = -1 := by unfold cmpZ; rw [if_pos h]
theorem cmpZ_gt {u w : Int} (h : w < u) : cmpZ u w = 1 := by unfold cmpZ; rw [if_neg (by omega), if_pos h]
theorem cmpZ_eq (u : Int) : cmpZ u u = 0 := by unfold cmpZ; rw [if_neg (by omega), if_neg (by omega)]
theorem cmpZ_cases (u w : Int) : (u < w ∧ cmpZ u w = -1) ∨ (u = w ∧ cmpZ u w = 0) ∨ (w < u ∧ cmpZ u w = 1) := by
  rcases Int.lt_trichotomy u w with h | h | h
  · exact .inl ⟨h, cmpZ_lt h⟩
  · exact .inr (.inl ⟨h, by rw [h]; exact cmpZ_eq w⟩)
  · exact .inr (.inr ⟨h, cmpZ_gt h⟩)
theorem sg_ns (s : ByteArray) : sg s = decide ((ns s).getD 0 0 = 45) := by
  have e : bt s 0 = (ns s).getD 0 0 := bt_ns s 0
  unfold sg
  rw [e]
  by_cases h : 0 < s.size
  · rw [decide_eq_true h, Bool.true_and]
  · have h0 : ns s = [] := List.length_eq_zero_iff.1 (by rw [ns_len]; omega)
    rw [decide_eq_false h, h0]; rfl
theorem ns_TZ (z : Int) : ns (TZ z) = if z < 0 then 45 :: tx z.natAbs else tx z.natAbs := by
  unfold TZ
  split
  · rw [ns_append, ns_T]; rfl
  · exact ns_T _
theorem tx_head (n : Nat) : 48 ≤ (tx n).getD 0 0 ∧ (tx n).getD 0 0 ≤ 57 := Dg_get (Dg_tx n) (tx_pos n)
theorem sg_TZ (z : Int) : sg (TZ z) = decide (z < 0) := by
  rw [sg_ns, ns_TZ]
  by_cases h : z < 0
  · rw [if_pos h, decide_eq_true h]; rfl
  · rw [if_neg h, decide_eq_false h]
    have := tx_head z.natAbs
    exact decide_eq_false (by omega)
theorem rs_TZ (z : Int) : ns (rs (TZ z)) = tx z.natAbs := by
  unfold rs
  rw [sg_TZ]
  by_cases h : z < 0
  · rw [if_pos (decide_eq_true h), ns_rest, ns_TZ, if_pos h]; rfl
  · rw [if_neg (by rw [decide_eq_false h]; decide), ns_TZ, if_neg h]
theorem wParse_TZ {z : Int} (h : z.natAbs < Bp m) (hm : m ≤ 190) : Ev (fun k => whole_Parse.f k (TZ z)) ((cz z).1, (cz z).2, true) := by
  refine wParse_to (n := z.natAbs) (by rw [rs_TZ]; exact tx_pos _) ?_ (by rw [rs_TZ]; exact Dg_tx _) (by rw [rs_TZ, pv_tx]) (fun q => ?_) ?_
  · rw [rs_TZ]
    refine Nat.le_trans (tx_len_le (k := 10 * m + 1) ?_ (by omega)) (by omega)
    refine Nat.lt_of_lt_of_le h ?_
    unfold Bp
    calc 4294967296 ^ m ≤ (10 ^ 10) ^ m := Nat.pow_le_pow_left (by decide) m
      _ = 10 ^ (10 * m) := by rw [Nat.pow_mul]
      _ ≤ 10 ^ (10 * m + 1) := Nat.pow_le_pow_right (by omega) (by omega)
  · rw [sg_TZ, decide_eq_true_eq] at q; omega
  · rw [sg_TZ]
    by_cases c : z < 0
    · rw [if_pos (decide_eq_true c)]; omega
    · rw [if_neg (by rw [decide_eq_false c]; decide)]; omega
end Go.Proofs.YtjgmmaeafodpmaaGreatDoor.Lib

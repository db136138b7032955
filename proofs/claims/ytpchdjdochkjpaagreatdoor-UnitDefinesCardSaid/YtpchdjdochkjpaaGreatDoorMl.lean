/- Numbers as lists of limbs of 32 bits, the lowest first: what a list is worth (V), the canonical list of a number (L), and how both go together. No program in sight. · What the printed functions of package nat come to: the canonical limbs of the Nat that the law speaks of. · When two numbers are alike. · What the printed functions of package mul come to. · The printed functions of package nat, said for the laws: of numbers whose worth is known. · What the document's answer for layer 1 (reference 01) comes to. · The printed functions of package mul, said for the laws; the look whether the package wakes: it does. · What the document's answer for layer 2 (reference 02) comes to. · The printed functions of package quo: quotients, what is left, the greatest divisor in common. · What the document's answer for layer 3 (reference 03) comes to: division bit by bit, the greatest divisor in common. · Strings as lists of bytes (ns), and how cuts, sums and the made ones read. No program in sight. · Decimal digits of a number, as bytes: the lowest first (dl), the highest first (tx); and what a text is worth (pv). No program in sight. · The printed functions of package digits: a number's text, a text's number, powers of ten. · The printed functions of package digits, second part: a text's number, powers of ten. · What the document's answer for layer 5 (reference 05) comes to: text, number of a text, power of ten, digit by digit. · A number of one's own is the number. · Whole numbers: a sign and limbs; the printed functions of package whole and of its reference. · The look whether package digits wakes: it does. · Whole numbers, second part: a text's number, equality, the look whether package whole wakes. · Whole numbers, third part: the order; a text and back. · Rational numbers: each is told in one way (core's Rat); what package rat makes of them. · Rational numbers, second part: the reference 07; sums, products and quotients of package rat. · Rational numbers, third part: which is greater, on which side of 0, the negative; more of the reference 07. · Dimensions: whether they may be, their products, quotients, powers. · A unit's text, read piece by piece, as numbers and dimensions; two texts one behind the other. No program in sight. · Texts of one name, of two with / between, of a name to a power and to its negative; with blanks. · Units: their powers, products, quotients; a unit of its own; a table of units. · The reader of a unit's text reads as it is told: blanks, signs, exponents, pieces, whole texts. -/
import Derived.Test.YtpchdjdochkjpaaGreatDoorYWords
import Derived.Laws.BitsAllLaws
import Derived.Laws.Bits64
import Derived.OpenShut
import Derived.Test.YtpchdjdochkjpaaGreatDoorMx
import Derived.Laws.BytesArg
import Derived.Laws.Strings
set_option linter.unusedVariables false
set_option linter.unusedSimpArgs false
namespace Go.Proofs.YtpchdjdochkjpaaGreatDoor.Lib
open Go.RowKit Go.Proofs.YtpchdjdochkjpaaGreatDoorW.PrintWords Go.Proofs.YtpchdjdochkjpaaGreatDoorW.PrintMore
theorem Ev.const {α : Type} {a : Option α} {r : α} (h : a = some r) : Ev (fun _ => a) r := ⟨0, fun _ _ => h⟩
theorem Ev.eq {α : Type} {g : Nat → Option α} {r r' : α} (h : Ev g r) (e : r = r') : Ev g r' := e ▸ h
theorem Ev.succ {α : Type} {g : Nat → Option α} {r : α} (h : Ev (fun k => g (k + 1)) r) : Ev g r := Ev.step (f := fun k => g (k + 1)) (fun _ => rfl) h
theorem Ev.ifp {α : Type} {c : Prop} [Decidable c] {g f : Nat → Option α} {r : α} (hc : c) (h : Ev g r) : Ev (fun n => if c then g n else f n) r := by
 simp only [if_pos hc]; exact h
theorem Ev.ifn {α : Type} {c : Prop} [Decidable c] {g f : Nat → Option α} {r : α} (hc : ¬ c) (h : Ev f r) : Ev (fun n => if c then g n else f n) r := by
 simp only [if_neg hc]; exact h
theorem Ev.more {α : Type} {g : Nat → Option α} {r : α} (h : Ev g r) : Ev (fun k => g (k + 1)) r := by
 obtain ⟨K, h⟩ := h
 exact ⟨K, fun k hk => h (k + 1) (by omega)⟩
theorem Ev.same {α : Type} {g : Nat → Option α} {r r' : α} (h : Ev g r) (h' : Ev g r') : r = r' := by
 obtain ⟨K, h⟩ := h
 obtain ⟨K', h'⟩ := h'
 have e1 := h (K + K') (by omega)
 have e2 := h' (K + K') (by omega)
 rw [e1] at e2
 exact Option.some.inj e2
theorem w64 {x : Int} (h0 : -9223372036854775808 ≤ x) (h1 : x ≤ 9223372036854775807) : wrap64 x = x := by unfold wrap64; omega
theorem wu64 {x : Int} (h0 : 0 ≤ x) (h1 : x ≤ 18446744073709551615) : IntKind.u64.wrap x = x := by rw [IntKind.wrap_u64]; omega
theorem mx_nat (a b : Nat) : mx (a : Int) (b : Int) = ((max a b : Nat) : Int) := by unfold mx; split <;> omega
theorem mn_nat (a b : Nat) : mn (a : Int) (b : Int) = ((min a b : Nat) : Int) := by unfold mn; split <;> omega
def V : List Int → Nat
 | [] => 0
 | x :: xs => x.toNat + 4294967296 * V xs
def W (l : List Int) : Prop := ∀ x ∈ l, 0 ≤ x ∧ x < 4294967296
def L (n : Nat) : List Int := if h : n = 0 then [] else ((n % 4294967296 : Nat) : Int) :: L (n / 4294967296)
termination_by n
decreasing_by exact Nat.div_lt_self (by omega) (by omega)
theorem L_zero : L 0 = [] := by rw [L]; rfl
theorem L_pos {n : Nat} (h : n ≠ 0) : L n = ((n % 4294967296 : Nat) : Int) :: L (n / 4294967296) := by rw [L, dif_neg h]
theorem V_nil : V [] = 0 := rfl
theorem V_cons (x : Int) (xs : List Int) : V (x :: xs) = x.toNat + 4294967296 * V xs := rfl
theorem V_L (n : Nat) : V (L n) = n := by
 induction n using Nat.strongRecOn with
 | ind n ih =>
  by_cases h : n = 0
  ·subst h; rw [L_zero]; rfl
  ·rw [L_pos h, V_cons, ih _ (Nat.div_lt_self (by omega) (by omega))]
   omega
theorem W_nil : W [] := fun _ h => by cases h
theorem W_cons {x : Int} {xs : List Int} : W (x :: xs) ↔ (0 ≤ x ∧ x < 4294967296) ∧ W xs := by
 simp [W]
theorem W_L (n : Nat) : W (L n) := by
 induction n using Nat.strongRecOn with
 | ind n ih =>
  by_cases h : n = 0
  ·subst h; rw [L_zero]; exact W_nil
  ·rw [L_pos h, W_cons]
   exact ⟨by omega, ih _ (Nat.div_lt_self (by omega) (by omega))⟩
theorem W_app {a b : List Int} : W (a ++ b) ↔ W a ∧ W b := by
 simp only [W, List.mem_append]
 exact ⟨fun h => ⟨fun x hx => h x (.inl hx), fun x hx => h x (.inr hx)⟩, fun h x hx => hx.elim (h.1 x) (h.2 x)⟩
theorem W_take {l : List Int} (h : W l) (n : Nat) : W (l.take n) := fun x hx => h x (List.mem_of_mem_take hx)
theorem W_drop {l : List Int} (h : W l) (n : Nat) : W (l.drop n) := fun x hx => h x (List.mem_of_mem_drop hx)
theorem W_set {l : List Int} (h : W l) (i : Nat) {x : Int} (h0 : 0 ≤ x) (h1 : x < 4294967296) : W (l.set i x) := fun y hy => by
 rcases List.mem_or_eq_of_mem_set hy with hy | rfl
 ·exact h y hy
 ·exact ⟨h0, h1⟩
theorem W_rep (n : Nat) : W (List.replicate n 0) := fun x hx => by
 have := (List.mem_replicate.1 hx).2
 omega
theorem W_get {l : List Int} (h : W l) (i : Nat) : 0 ≤ l.getD i 0 ∧ l.getD i 0 < 4294967296 := by
 rw [List.getD_eq_getElem?_getD]
 by_cases hi : i < l.length
 ·rw [List.getElem?_eq_getElem hi]; exact h _ (List.getElem_mem hi)
 ·rw [List.getElem?_eq_none (by omega)]; simp
theorem V_app (a b : List Int) : V (a ++ b) = V a + 4294967296 ^ a.length * V b := by
 induction a with
 | nil => simp [V]
 | cons x xs ih =>
  rw [List.cons_append, V_cons, ih, V_cons, List.length_cons, Nat.pow_succ, Nat.mul_add, ← Nat.mul_assoc, Nat.mul_comm (4294967296 ^ xs.length) 4294967296]
  omega
theorem V_rep (n : Nat) : V (List.replicate n 0) = 0 := by
 induction n with
 | zero => rfl
 | succ n ih => rw [List.replicate_succ, V_cons, ih]; rfl
theorem V_lt {l : List Int} (h : W l) : V l < 4294967296 ^ l.length := by
 induction l with
 | nil => simp [V]
 | cons x xs ih =>
  obtain ⟨hx, hxs⟩ := W_cons.1 h
  have := ih hxs
  rw [V_cons, List.length_cons, Nat.pow_succ]
  have h2 : x.toNat < 4294967296 := by omega
  omega
theorem pow_pos (n : Nat) : 0 < 4294967296 ^ n := Nat.pos_of_ne_zero (by simp)
theorem pow_le {m n : Nat} (h : m ≤ n) : 4294967296 ^ m ≤ 4294967296 ^ n := Nat.pow_le_pow_right (by omega) h
theorem V_take_add (l : List Int) (i : Nat) : V l = V (l.take i) + 4294967296 ^ (min i l.length) * V (l.drop i) := by
 have h := V_app (l.take i) (l.drop i)
 rw [List.take_append_drop, List.length_take] at h
 exact h
theorem V_take_succ (l : List Int) (i : Nat) : V (l.take (i + 1)) = V (l.take i) + 4294967296 ^ i * (l.getD i 0).toNat := by
 by_cases hi : i < l.length
 ·rw [List.take_succ_eq_append_getElem hi, V_app, List.length_take, Nat.min_eq_left (by omega), V_cons, V_nil, List.getD_eq_getElem?_getD, List.getElem?_eq_getElem hi]
  simp
 ·rw [List.take_of_length_le (by omega), List.take_of_length_le (by omega), List.getD_eq_getElem?_getD, List.getElem?_eq_none (by omega)]
  simp
theorem V_take_all (l : List Int) {i : Nat} (h : l.length ≤ i) : V (l.take i) = V l := by rw [List.take_of_length_le h]
theorem take_set (l : List Int) (i : Nat) (x : Int) (h : i < l.length) : (l.set i x).take (i + 1) = l.take i ++ [x] := by
 rw [List.take_succ_eq_append_getElem (by simpa using h)]
 simp [List.take_set_of_le]
theorem V_take_set (l : List Int) (i : Nat) (x : Int) (h : i < l.length) : V ((l.set i x).take (i + 1)) = V (l.take i) + 4294967296 ^ i * x.toNat := by
 rw [take_set l i x h, V_app, List.length_take, Nat.min_eq_left (by omega), V_cons, V_nil]
 simp
theorem get_set_ne (l : List Int) {i j : Nat} (x : Int) (h : i ≠ j) : (l.set i x).getD j 0 = l.getD j 0 := by
 simp only [List.getD_eq_getElem?_getD, List.getElem?_set_ne h]
theorem get_take (l : List Int) {i j : Nat} (h : j < i) : (l.take i).getD j 0 = l.getD j 0 := by
 simp only [List.getD_eq_getElem?_getD, List.getElem?_take, if_pos h]
theorem get_drop (l : List Int) (i j : Nat) : (l.drop i).getD j 0 = l.getD (i + j) 0 := by
 simp only [List.getD_eq_getElem?_getD, List.getElem?_drop]
theorem V_drop_cons (l : List Int) {i : Nat} (h : i < l.length) : V (l.drop i) = (l.getD i 0).toNat + 4294967296 * V (l.drop (i + 1)) := by
 rw [List.drop_eq_getElem_cons h, V_cons, List.getD_eq_getElem?_getD, List.getElem?_eq_getElem h]
 rfl
theorem L_len_le {n : Nat} : ∀ {m : Nat}, n < 4294967296 ^ m → (L n).length ≤ m := by
 induction n using Nat.strongRecOn with
 | ind n ih =>
  intro m h
  by_cases h0 : n = 0
  ·subst h0; rw [L_zero]; simp
  ·cases m with
   | zero => simp at h; omega
   | succ m =>
    rw [L_pos h0, List.length_cons]
    have := @ih _ (Nat.div_lt_self (by omega) (by omega) : n / 4294967296 < n) m (by rw [Nat.pow_succ] at h; omega)
    omega
theorem lt_of_len {n m : Nat} (h : (L n).length ≤ m) : n < 4294967296 ^ m := by
 have h1 := V_lt (W_L n)
 rw [V_L] at h1
 exact Nat.lt_of_lt_of_le h1 (pow_le h)
theorem len_le_iff {n m : Nat} : (L n).length ≤ m ↔ n < 4294967296 ^ m := ⟨lt_of_len, L_len_le⟩
theorem L_inj {a b : Nat} (h : L a = L b) : a = b := by rw [← V_L a, h, V_L]
theorem L_inj_iff {a b : Nat} : L a = L b ↔ a = b := ⟨L_inj, fun h => by rw [h]⟩
theorem L_nil_iff {n : Nat} : L n = [] ↔ n = 0 := by rw [← L_zero]; exact L_inj_iff
theorem L_len_zero {n : Nat} : (L n).length = 0 ↔ n = 0 := by rw [List.length_eq_zero_iff]; exact L_nil_iff
def U (l : List Int) : Nat := (L (V l)).length
theorem U_le {l : List Int} (h : W l) : U l ≤ l.length := L_len_le (V_lt h)
theorem V_zero_all {l : List Int} (h : W l) (hv : V l = 0) (j : Nat) : l.getD j 0 = 0 := by
 induction l generalizing j with
 | nil => simp
 | cons x xs ih =>
  obtain ⟨hx, hxs⟩ := W_cons.1 h
  rw [V_cons] at hv
  cases j with
  | zero => simp; omega
  | succ j => have := ih hxs (by omega) j; simpa using this
theorem take_U {l : List Int} (h : W l) : l.take (U l) = L (V l) := by
 induction l with
 | nil => simp [U, V, L_zero]
 | cons x xs ih =>
  obtain ⟨hx, hxs⟩ := W_cons.1 h
  unfold U
  by_cases h0 : V (x :: xs) = 0
  ·rw [h0, L_zero]; rfl
  ·have e1 : V (x :: xs) / 4294967296 = V xs := by rw [V_cons]; omega
   have e2 : ((V (x :: xs) % 4294967296 : Nat) : Int) = x := by rw [V_cons]; omega
   rw [L_pos h0, e1, e2, List.length_cons, List.take_succ_cons]
   have := ih hxs
   unfold U at this
   rw [this]
theorem tail_zero {l : List Int} (h : W l) {j : Nat} (hj : U l ≤ j) : l.getD j 0 = 0 := by
 have e := V_take_add l (U l)
 rw [take_U h, V_L] at e
 have hz : V (l.drop (U l)) = 0 := by
  have hp := pow_pos (min (U l) l.length)
  rcases Nat.eq_zero_or_pos (V (l.drop (U l))) with h1 | h1
  ·exact h1
  ·have := Nat.mul_pos hp h1
   omega
 have := V_zero_all (W_drop h (U l)) hz (j - U l)
 rw [get_drop] at this
 rwa [Nat.add_sub_cancel' hj] at this
theorem L_last {n : Nat} (h : n ≠ 0) : (L n).getD ((L n).length - 1) 0 ≠ 0 := by
 induction n using Nat.strongRecOn with
 | ind n ih =>
  rw [L_pos h, List.length_cons, Nat.add_sub_cancel]
  by_cases h0 : n / 4294967296 = 0
  ·rw [h0, L_zero]
   simp
   omega
  ·have := ih _ (Nat.div_lt_self (by omega) (by omega)) h0
   have hl : (L (n / 4294967296)).length ≠ 0 := fun e => h0 (L_len_zero.1 e)
   obtain ⟨m, hm⟩ : ∃ m, (L (n / 4294967296)).length = m + 1 := ⟨_, (Nat.succ_pred hl).symm⟩
   rw [hm] at this ⊢
   simpa using this
theorem U_last {l : List Int} (h : W l) (h0 : U l ≠ 0) : l.getD (U l - 1) 0 ≠ 0 := by
 have hv : V l ≠ 0 := fun e => h0 (by unfold U; rw [e, L_zero]; rfl)
 have := L_last hv
 rw [← take_U h, get_take _ (by rw [List.length_take]; have := U_le h; omega)] at this
 rw [List.length_take, Nat.min_eq_left (U_le h)] at this
 exact this
theorem U_zero {l : List Int} : U l = 0 ↔ V l = 0 := L_len_zero
theorem V_take_ge {l : List Int} (h : W l) {i : Nat} (hi : U l ≤ i) : V (l.take i) = V l := by
 obtain ⟨d, rfl⟩ := Nat.exists_eq_add_of_le hi
 clear hi
 induction d with
 | zero => rw [Nat.add_zero, take_U h, V_L]
 | succ d ih => rw [← Nat.add_assoc, V_take_succ, ih, tail_zero h (by omega)]; simp
theorem L_one {n : Nat} (h0 : n ≠ 0) (h : n < 4294967296) : L n = [(n : Int)] := by
 rw [L_pos h0, show n / 4294967296 = 0 by omega, L_zero, Nat.mod_eq_of_lt h]
def G (l : List Int) : Prop := W l ∧ l.length ≤ 1000000
theorem G_L {n m : Nat} (h : n < 4294967296 ^ m) (hm : m ≤ 1000000) : G (L n) := ⟨W_L n, Nat.le_trans (L_len_le h) hm⟩
theorem G_V {l : List Int} (h : W l) {m : Nat} (hm : l.length ≤ m) : V l < 4294967296 ^ m := Nat.lt_of_lt_of_le (V_lt h) (pow_le hm)
theorem mul_lt {x y m n : Nat} (h : x < 4294967296 ^ m) (k : y < 4294967296 ^ n) : x * y < 4294967296 ^ (m + n) := by
 rw [Nat.pow_add]
 exact Nat.mul_lt_mul'' h k
theorem lt_more {x m n : Nat} (h : x < 4294967296 ^ m) (k : m ≤ n) : x < 4294967296 ^ n := Nat.lt_of_lt_of_le h (pow_le k)
def cmpI (x y : Nat) : Int := if x < y then -1 else if y < x then 1 else 0
theorem wf_u32 {l : List Int} (h : ∀ x ∈ l, (Lit.int .u32 x).wf = true) : W l := fun x hx => by
 have := h x hx
 have b := bounds_u32 this
 omega
end Go.Proofs.YtpchdjdochkjpaaGreatDoor.Lib
set_option linter.unusedVariables false
set_option linter.unusedSimpArgs false
namespace Go.Proofs.YtpchdjdochkjpaaGreatDoor.Lib
open Go.RowKit Go.Proofs.YtpchdjdochkjpaaGreatDoorW.PrintWords Go.Proofs.YtpchdjdochkjpaaGreatDoorW.PrintMore Go.Proofs.YtpchdjdochkjpaaGreatDoor.P
theorem rd_nat (l : List Int) (i : Nat) : rd l (i : Int) = l.getD i 0 := rfl
theorem w64_succ {i : Nat} (h : i < 9223372036854775807) : wrap64 ((i : Int) + 1) = ((i + 1 : Nat) : Int) := by rw [w64 (by omega) (by omega)]; omega
theorem w64_pred {i : Nat} (h0 : 0 < i) (h : i < 9223372036854775807) : wrap64 ((i : Int) - 1) = ((i - 1 : Nat) : Int) := by rw [w64 (by omega) (by omega)]; omega
theorem used_spec {l : List Int} (hG : G l) : Ev (fun k => nat_used.f k l) (U l : Int) := by
 obtain ⟨h, hl⟩ := hG
 have hU := U_le h
 have key : ∀ d i : Nat, i = U l + d → i ≤ l.length → Ev (fun k => nat_used.l0 k l (i : Int)) (U l : Int) := by
  intro d
  induction d with
  | zero =>
   intro i hi hil
   obtain rfl : i = U l := by omega
   refine Ev.succ ?_
   simp only [nat_used.l0]
   by_cases h0 : U l = 0
   ·exact Ev.ifn (by omega) (Ev.now _)
   ·rw [w64_pred (by omega) (by omega), rd_nat]
    exact Ev.ifp (by omega) (Ev.ifp (by omega) (Ev.ifp (by omega) (Ev.ifn (U_last h h0) (Ev.now _))))
  | succ d ih =>
   intro i hi hil
   refine Ev.succ ?_
   simp only [nat_used.l0]
   rw [w64_pred (by omega) (by omega), rd_nat]
   exact Ev.ifp (by omega) (Ev.ifp (by omega) (Ev.ifp (by omega) (Ev.ifp (tail_zero h (by omega)) (ih (i - 1) (by omega) (by omega)))))
 exact key (l.length - U l) l.length (by omega) (Nat.le_refl _)
theorem cpy_take (n : Nat) (l : List Int) (h : n ≤ l.length) : cpy (List.replicate n 0) 0 l = l.take n := by
 simp only [cpy, List.length_replicate, List.take_zero, List.nil_append, Nat.sub_zero, Nat.zero_add]
 rw [List.drop_eq_nil_of_le (by rw [List.length_replicate]; exact h), List.append_nil]
theorem Trim_spec {l : List Int} (hG : G l) : Ev (fun k => nat_Trim.f k l) (L (V l)) := by
 have hU := U_le hG.1
 have hl := hG.2
 unfold nat_Trim.f
 refine Ev.bind (used_spec hG) (Ev.ifp (by omega) (Ev.ifp (by omega) (Ev.const ?_)))
 rw [Int.toNat_natCast, cpy_take _ _ hU, take_U hG.1]
theorem Of_spec {v : Int} (h0 : 0 ≤ v) (h1 : v < 18446744073709551616) : Ev (fun k => nat_Of.f k v) (L v.toNat) := by
 have hW : W [v % 4294967296, (v / 4294967296) % 4294967296] := by
  rw [W_cons, W_cons]
  exact ⟨by omega, by omega, W_nil⟩
 have hV : V [v % 4294967296, (v / 4294967296) % 4294967296] = v.toNat := by
  simp only [V_cons, V_nil]
  omega
 unfold nat_Of.f
 refine Ev.bind (Trim_spec ⟨hW, by simp⟩) ?_
 rw [hV]
 exact Ev.now _
theorem compare_int (a b : Int) : cmp_Compare_int.f a b = some (if a < b then -1 else if a > b then 1 else 0) := by
 simp only [cmp_Compare_int.f, cmp_isNaN_int.f, bne_self_eq_false, Option.bind_some, if_neg (show ¬ (false = true) by decide)]
 split
 ·rfl
 ·split <;> rfl
theorem compare_u32 (a b : Int) : cmp_Compare_uint32.f a b = some (if a < b then -1 else if a > b then 1 else 0) := by
 simp only [cmp_Compare_uint32.f, cmp_isNaN_uint32.f, bne_self_eq_false, Option.bind_some, if_neg (show ¬ (false = true) by decide)]
 split
 ·rfl
 ·split <;> rfl
theorem cmp_step {x y p a b : Nat} (hx : x < p) (hy : y < p) (h : a < b) : x + p * a < y + p * b := by
 have : p * (a + 1) ≤ p * b := Nat.mul_le_mul_left _ h
 rw [Nat.mul_add] at this
 omega
theorem V_take_lt {l : List Int} (h : W l) (i : Nat) : V (l.take i) < 4294967296 ^ i := Nat.lt_of_lt_of_le (V_lt (W_take h i)) (pow_le (by rw [List.length_take]; omega))
theorem V_ge {l : List Int} (h0 : U l ≠ 0) : 4294967296 ^ (U l - 1) ≤ V l := by
 rcases Nat.lt_or_ge (V l) (4294967296 ^ (U l - 1)) with h | h
 ·have := L_len_le h
  have e : (L (V l)).length = U l := rfl
  omega
 ·exact h
theorem V_lt_U {l : List Int} : V l < 4294967296 ^ U l := lt_of_len (Nat.le_refl _)
theorem cmpI_lt {x y : Nat} (h : x < y) : cmpI x y = -1 := by unfold cmpI; rw [if_pos h]
theorem cmpI_gt {x y : Nat} (h : y < x) : cmpI x y = 1 := by unfold cmpI; rw [if_neg (by omega), if_pos h]
theorem cmpI_eq (x : Nat) : cmpI x x = 0 := by unfold cmpI; rw [if_neg (by omega), if_neg (by omega)]
theorem cmpI_add (x y z : Nat) : cmpI (x + z) (y + z) = cmpI x y := by
 unfold cmpI
 by_cases h : x < y
 ·rw [if_pos h, if_pos (by omega)]
 ·rw [if_neg h, if_neg (by omega)]
  by_cases h2 : y < x
  ·rw [if_pos h2, if_pos (by omega)]
  ·rw [if_neg h2, if_neg (by omega)]
theorem carry_zero {p c x y : Nat} (h : x + p * c = y) (hy : y < p) : c = 0 := by
 rcases Nat.eq_zero_or_pos c with h0 | h0
 ·exact h0
 ·have := Nat.mul_le_mul_left p h0
  omega
theorem Cmp_spec {a b : List Int} (ha : G a) (hb : G b) : Ev (fun k => nat_Cmp.f k a b) (cmpI (V a) (V b)) := by
 have hUa := U_le ha.1
 have hUb := U_le hb.1
 have hla := ha.2
 have hlb := hb.2
 have key : ∀ i : Nat, i ≤ a.length → i ≤ b.length → Ev (fun k => nat_Cmp.l0 k a b ((i : Int) - 1)) (cmpI (V (a.take i)) (V (b.take i))) := by
  intro i
  induction i with
  | zero =>
   intro _ _
   refine Ev.succ ?_
   simp only [nat_Cmp.l0]
   refine Ev.ifn (by omega) ?_
   simp only [List.take_zero, cmpI_eq]
   exact Ev.now _
  | succ i ih =>
   intro h1 h2
   refine Ev.succ ?_
   simp only [nat_Cmp.l0]
   rw [show (((i + 1 : Nat) : Int) - 1) = (i : Int) by omega, rd_nat, rd_nat, compare_u32]
   refine Ev.ifp (by omega) (Ev.ifp (by omega) (Ev.ifp (by omega) (Ev.ifp (by omega) ?_)))
   simp only [Option.bind_some]
   have g1 := W_get ha.1 i
   have g2 := W_get hb.1 i
   have t1 := V_take_lt ha.1 i
   have t2 := V_take_lt hb.1 i
   rw [V_take_succ, V_take_succ]
   by_cases c1 : a.getD i 0 < b.getD i 0
   ·rw [if_pos c1, cmpI_lt (cmp_step t1 t2 (by omega))]
    exact Ev.ifn (by omega) (Ev.now _)
   ·by_cases c2 : a.getD i 0 > b.getD i 0
    ·rw [if_neg c1, if_pos c2, cmpI_gt (cmp_step t2 t1 (by omega))]
     exact Ev.ifn (by omega) (Ev.now _)
    ·rw [if_neg c1, if_neg c2]
     refine Ev.ifp rfl ?_
     rw [w64 (by omega) (by omega)]
     have e : (a.getD i 0).toNat = (b.getD i 0).toNat := by omega
     rw [e, cmpI_add]
     exact ih (by omega) (by omega)
 unfold nat_Cmp.f
 refine Ev.bind (used_spec ha) (Ev.bind (used_spec hb) ?_)
 rw [compare_int]
 simp only [Option.bind_some]
 by_cases c1 : U a < U b
 ·rw [if_pos (by omega)]
  refine Ev.ifn (by omega) ?_
  rw [cmpI_lt]
  ·exact Ev.now _
  ·exact Nat.lt_of_lt_of_le (Nat.lt_of_lt_of_le V_lt_U (pow_le (by omega))) (V_ge (by omega))
 ·by_cases c2 : U b < U a
  ·rw [if_neg (by omega), if_pos (by omega)]
   refine Ev.ifn (by omega) ?_
   rw [cmpI_gt]
   ·exact Ev.now _
   ·exact Nat.lt_of_lt_of_le (Nat.lt_of_lt_of_le V_lt_U (pow_le (by omega))) (V_ge (by omega))
  ·rw [if_neg (by omega), if_neg (by omega)]
   refine Ev.ifp rfl ?_
   rw [w64 (by omega) (by omega)]
   refine Ev.eq (key (U a) hUa (by omega)) ?_
   rw [V_take_ge ha.1 (Nat.le_refl _), show U a = U b by omega, V_take_ge hb.1 (Nat.le_refl _)]
theorem at_spec (l : List Int) (i : Nat) : nat_at.f l (i : Int) = some (l.getD i 0) := by
 unfold nat_at.f
 by_cases h : i < l.length
 ·rw [if_pos (by omega), if_pos (by omega), rd_nat]
 ·rw [if_neg (by omega), List.getD_eq_getElem?_getD, List.getElem?_eq_none (by omega)]
  rfl
theorem top_bit {x : Nat} (h : x < 4294967296) : x / 2147483648 = (x.testBit 31).toNat := by
 rw [Nat.testBit_eq_decide_div_mod_eq]
 rw [show (2 : Nat) ^ 31 = 2147483648 from rfl]
 by_cases c : x / 2147483648 % 2 = 1
 ·rw [decide_eq_true c]; simp; omega
 ·rw [decide_eq_false c]; simp; omega
theorem top_true {x : Nat} (h : x < 4294967296) : x.testBit 31 = decide (2147483648 ≤ x) := by
 rw [Nat.testBit_eq_decide_div_mod_eq]
 rw [show (2 : Nat) ^ 31 = 2147483648 from rfl]
 by_cases c : 2147483648 ≤ x
 ·rw [decide_eq_true c, decide_eq_true (by omega)]
 ·rw [decide_eq_false c, decide_eq_false (by omega)]
theorem borrow_nat (A C D c : Nat) (hA : A < 4294967296) (hC : C < 4294967296) (hD : D < 4294967296) (hc : c ≤ 1) (h : D + C + c = A ∨ D + C + c = A + 4294967296) :
  (((4294967295 ^^^ A) &&& C) ||| ((4294967295 ^^^ (A ^^^ C)) &&& D)) / 2147483648 = if A < C + c then 1 else 0 := by
 have hx : ((4294967295 ^^^ A) &&& C) ||| ((4294967295 ^^^ (A ^^^ C)) &&& D) < 4294967296 :=
  Nat.or_lt_two_pow (n := 32) (Nat.and_lt_two_pow _ hC) (Nat.and_lt_two_pow _ hD)
 rw [top_bit hx, Nat.testBit_or, Nat.testBit_and, Nat.testBit_and, Nat.testBit_xor, Nat.testBit_xor, Nat.testBit_xor, top_true hA, top_true hC, top_true hD, show Nat.testBit 4294967295 31 = true from by decide]
 by_cases a1 : 2147483648 ≤ A <;> by_cases c1 : 2147483648 ≤ C <;> by_cases d1 : 2147483648 ≤ D <;> simp only [a1, c1, d1, decide_true, decide_false, Bool.xor_true, Bool.xor_false, Bool.not_true, Bool.not_false, Bool.and_true, Bool.and_false, Bool.or_true, Bool.or_false, Bool.true_and, Bool.false_and, Bool.true_or, Bool.false_or, Bool.toNat_true, Bool.toNat_false, Bool.false_xor, Bool.true_xor] <;> split <;> omega
theorem Sub32_spec {a b c : Int} (ha : 0 ≤ a ∧ a < 4294967296) (hb : 0 ≤ b ∧ b < 4294967296) (hc : 0 ≤ c ∧ c ≤ 1) :
  bits_Sub32.f a b c = some ((a - b - c) % 4294967296, if a < b + c then 1 else 0) := by
 unfold bits_Sub32.f
 have hd : (((a - b) % 4294967296) - c) % 4294967296 = (a - b - c) % 4294967296 := by omega
 rw [hd]
 obtain ⟨A, rfl⟩ := Int.eq_ofNat_of_zero_le ha.1
 obtain ⟨C, rfl⟩ := Int.eq_ofNat_of_zero_le hb.1
 obtain ⟨c, rfl⟩ := Int.eq_ofNat_of_zero_le hc.1
 obtain ⟨D, hD⟩ := Int.eq_ofNat_of_zero_le (show 0 ≤ ((A : Int) - C - c) % 4294967296 by omega)
 have hDl : D < 4294967296 := by omega
 have hbor := borrow_nat A C D c (by omega) (by omega) hDl (by omega) (by omega)
 have lx : ∀ x : Nat, x < 4294967296 → 4294967295 ^^^ x < 4294967296 := fun x hx => Nat.xor_lt_two_pow (n := 32) (by decide) hx
 have lx2 : A ^^^ C < 4294967296 := Nat.xor_lt_two_pow (n := 32) (by omega) (by omega)
 rw [hD, show (4294967295 : Int) = ((4294967295 : Nat) : Int) from rfl, u32_xor_nat _ _ (by decide) (by omega), u32_xor_nat A C (by omega) (by omega), u32_xor_nat _ _ (by decide) lx2,
  u32_and_nat _ _ (lx _ (by omega)) (by omega), u32_and_nat _ _ (lx _ lx2) hDl, u32_or_nat _ _ (Nat.and_lt_two_pow (n := 32) _ (by omega)) (Nat.and_lt_two_pow (n := 32) _ hDl)]
 congr 2
 rw [show (2147483648 : Int) = ((2147483648 : Nat) : Int) from rfl, ← Int.natCast_ediv, hbor]
 split
 ·rw [if_pos (by omega)]; rfl
 ·rw [if_neg (by omega)]; rfl
theorem Sub_loop {t b : List Int} (ht : W t) (hb : W b) (hl : t.length ≤ 1000000) (hle : V (b.take t.length) ≤ V t) : ∀ d i (out : List Int) (c : Int), t.length = i + d → out.length = t.length → W out → 0 ≤ c ∧ c ≤ 1 →
  (∀ j, i ≤ j → out.getD j 0 = t.getD j 0) → V (out.take i) + V (b.take i) = V (t.take i) + 4294967296 ^ i * c.toNat → Ev (fun k => nat_Sub.l0 k b out c (t.length : Int) (i : Int)) (L (V t - V (b.take t.length)), true) := by
 intro d
 induction d with
 | zero =>
  intro i out c hi ho hw hc hs hv
  obtain rfl : t.length = i := by omega
  refine Ev.succ ?_
  simp only [nat_Sub.l0]
  refine Ev.ifn (by omega) ?_
  rw [V_take_all out (by omega), V_take_all t (by omega)] at hv
  have hlt := V_lt hw
  rw [ho] at hlt
  have hc0 : c.toNat = 0 := by
   rcases Nat.eq_zero_or_pos c.toNat with h | h
   ·exact h
   ·have h1 := Nat.mul_le_mul_left (4294967296 ^ t.length) h
    have h3 := V_lt ht
    generalize 4294967296 ^ t.length = p at *
    omega
  rw [hc0, Nat.mul_zero, Nat.add_zero] at hv
  have hv2 : V out = V t - V (b.take t.length) := by omega
  refine Ev.bind (Trim_spec ⟨hw, by omega⟩) ?_
  rw [hv2]
  exact Ev.now _
 | succ d ih =>
  intro i out c hi ho hw hc hs hv
  refine Ev.succ ?_
  have g1 := W_get ht i
  have g2 := W_get hb i
  simp only [nat_Sub.l0, at_spec, Option.bind_some, rd_nat, hs i (Nat.le_refl _)]
  rw [Sub32_spec g1 g2 hc]
  simp only [Option.bind_some]
  refine Ev.ifp (by omega) (Ev.ifp (by omega) (Ev.ifp (by omega) ?_))
  rw [w64_succ (by omega), Int.toNat_natCast]
  refine ih (i + 1) _ _ (by omega) (by rw [List.length_set]; exact ho) (W_set hw i (by omega) (by omega)) (by split <;> omega) (fun j hj => by rw [get_set_ne _ _ (by omega)]; exact hs j (by omega)) ?_
  rw [V_take_set _ _ _ (by omega), V_take_succ, V_take_succ, Nat.pow_succ]
  generalize 4294967296 ^ i = p at *
  have e2 : ((t.getD i 0 - b.getD i 0 - c) % 4294967296).toNat + (b.getD i 0).toNat + c.toNat = (t.getD i 0).toNat + 4294967296 * (if t.getD i 0 < b.getD i 0 + c then (1 : Int) else 0).toNat := by
   split <;> omega
  have e3 := congrArg (p * ·) e2
  simp only [Nat.mul_add] at e3
  rw [Nat.mul_assoc p 4294967296]
  omega
theorem Sub_spec {a b : List Int} (ha : G a) (hb : G b) : Ev (fun k => nat_Sub.f k a b) (if V a < V b then ([], false) else (L (V a - V b), true)) := by
 have hUa := U_le ha.1
 have hla := ha.2
 unfold nat_Sub.f
 refine Ev.bind (Cmp_spec ha hb) ?_
 by_cases h : V a < V b
 ·rw [cmpI_lt h, if_pos h]
  exact Ev.ifp (by omega) (Ev.now _)
 ·rw [if_neg h]
  refine Ev.ifn ?_ (Ev.bind (Trim_spec ha) ?_)
  ·unfold cmpI
   rw [if_neg h]
   split <;> omega
  ·have hU : U b ≤ (L (V a)).length := by
    have h1 : V b < 4294967296 ^ (L (V a)).length := Nat.lt_of_le_of_lt (by omega) (lt_of_len (Nat.le_refl (L (V a)).length))
    exact L_len_le h1
   have eb := V_take_ge hb.1 hU
   have := Sub_loop (W_L (V a)) hb.1 (by have : (L (V a)).length = U a := rfl; omega) (by rw [eb, V_L]; omega) (L (V a)).length 0 (L (V a)) 0 (by omega) rfl (W_L _) (by omega) (fun _ _ => rfl) (by simp [V])
   rw [eb, V_L] at this
   exact this
def bl (n : Nat) : Nat := if n = 0 then 0 else Nat.log2 n + 1
theorem bl_zero : bl 0 = 0 := rfl
theorem bl_unique {n m : Nat} (h0 : 2 ^ m ≤ n) (h1 : n < 2 ^ (m + 1)) : bl n = m + 1 := by
 have hn : n ≠ 0 := by have := Nat.two_pow_pos m; omega
 unfold bl
 rw [if_neg hn]
 have := (Nat.le_log2 hn).2 h0
 have := (Nat.log2_lt hn).2 h1
 omega
theorem bl_lt (n : Nat) : n < 2 ^ bl n := by
 unfold bl
 split
 ·omega
 ·rename_i h
  exact (Nat.log2_lt h).1 (by omega)
theorem bl_le {n : Nat} (h : n ≠ 0) : 2 ^ (bl n - 1) ≤ n := by
 unfold bl
 rw [if_neg h, Nat.add_sub_cancel]
 exact (Nat.le_log2 h).1 (Nat.le_refl _)
theorem bl_pos {n : Nat} (h : n ≠ 0) : 0 < bl n := by unfold bl; rw [if_neg h]; omega
theorem bl_le_iff {n m : Nat} : bl n ≤ m ↔ n < 2 ^ m := by
 constructor
 ·intro h
  exact Nat.lt_of_lt_of_le (bl_lt n) (Nat.pow_le_pow_right (by omega) h)
 ·intro h
  by_cases h0 : n = 0
  ·subst h0; rw [bl_zero]; omega
  ·rcases Nat.lt_or_ge m (bl n) with h1 | h1
   ·have h2 := bl_le h0
    have h3 : 2 ^ m ≤ 2 ^ (bl n - 1) := Nat.pow_le_pow_right (by omega) (by omega)
    omega
   ·exact h1
theorem bl_shift {n k : Nat} (h : n / 2 ^ k ≠ 0) : bl n = bl (n / 2 ^ k) + k := by
 have hp := Nat.two_pow_pos k
 obtain ⟨m, hm⟩ : ∃ m, bl (n / 2 ^ k) = m + 1 := ⟨_, (Nat.succ_pred (Nat.ne_of_gt (bl_pos h))).symm⟩
 have h1 := bl_le h
 have h2 := bl_lt (n / 2 ^ k)
 rw [hm] at h1 h2 ⊢
 rw [Nat.add_sub_cancel] at h1
 rw [show m + 1 + k = (m + k) + 1 by omega]
 refine bl_unique ?_ ?_
 ·rw [Nat.pow_add]
  exact Nat.le_trans (Nat.mul_le_mul_right _ h1) (Nat.div_mul_le_self _ _)
 ·rw [show m + k + 1 = (m + 1) + k by omega, Nat.pow_add]
  exact (Nat.div_lt_iff_lt_mul hp).1 h2
theorem Len_small : ∀ x : Fin 256, bits_Len32.f ((x.val : Nat) : Int) = some ((bl x.val : Nat) : Int) := by decide +kernel
theorem Len32_spec {x : Nat} (h : x < 4294967296) : bits_Len32.f (x : Int) = some ((bl x : Nat) : Int) := by
 have small : ∀ y : Nat, y < 256 → bits_Len32.f (y : Int) = some ((bl y : Nat) : Int) := fun y hy => Len_small ⟨y, hy⟩
 by_cases h1 : x < 256
 ·exact small x h1
 ·have up : ∀ y q : Nat, y / 256 = q → q ≠ 0 → bl y = bl q + 8 := fun y q hq h0 => by
   have := bl_shift (n := y) (k := 8) (by rw [show (2 : Nat) ^ 8 = 256 from rfl]; omega)
   rw [this, show (2 : Nat) ^ 8 = 256 from rfl, hq]
  obtain ⟨T, hT⟩ : ∃ T, ∀ a : Int, bits_Len32.f a = if a ≥ 65536 then (if (a / 65536) ≥ 256 then (if 0 ≤ (((a / 65536) / 256) % 256) then (if (((a / 65536) / 256) % 256) < 256 then (some (wrap64 ((16 + 8) + (wrap64 (bt T (((a / 65536) / 256) % 256)))))) else (none)) else (none)) else (if 0 ≤ ((a / 65536) % 256) then (if ((a / 65536) % 256) < 256 then (some (wrap64 (16 + (wrap64 (bt T ((a / 65536) % 256)))))) else (none)) else (none))) else (if a ≥ 256 then (if 0 ≤ ((a / 256) % 256) then (if ((a / 256) % 256) < 256 then (some (wrap64 ((0 + 8) + (wrap64 (bt T ((a / 256) % 256)))))) else (none)) else (none)) else (if 0 ≤ ((a) % 256) then (if ((a) % 256) < 256 then (some (wrap64 (0 + (wrap64 (bt T ((a) % 256)))))) else (none)) else (none))) := ⟨_, fun a => rfl⟩
  have base : ∀ q : Nat, q < 256 → bt T (q : Int) = ((bl q : Nat) : Int) := fun q hq => by
   have e := small q hq
   have hb := bt_range T (q : Int)
   rw [hT, if_neg (by omega), if_neg (by omega), if_pos (by omega), if_pos (by omega)] at e
   have e2 := Option.some.inj e
   rw [show ((q : Int) % 256) = (q : Int) by omega, w64 (x := bt T (q : Int)) (by omega) (by omega), w64 (by omega) (by omega)] at e2
   omega
  rw [hT]
  have f1 : ((x : Int) / 65536) = ((x / 65536 : Nat) : Int) := by omega
  have f2 : ((x : Int) / 256) = ((x / 256 : Nat) : Int) := by omega
  by_cases h2 : x < 65536
  ·rw [if_neg (by omega), if_pos (by omega), if_pos (by omega), if_pos (by omega), show ((x : Int) / 256) % 256 = ((x / 256 : Nat) : Int) by omega, base _ (by omega), up x (x / 256) rfl (by omega)]
   have hb : bl (x / 256) ≤ 8 := bl_le_iff.2 (by rw [show (2 : Nat) ^ 8 = 256 from rfl]; omega)
   rw [w64 (x := ((bl (x / 256) : Nat) : Int)) (by omega) (by omega), w64 (by omega) (by omega)]
   congr 1
   omega
  ·have e16 : bl x = bl (x / 65536) + 16 := by
    have := bl_shift (n := x) (k := 16) (by rw [show (2 : Nat) ^ 16 = 65536 from rfl]; omega)
    rw [this, show (2 : Nat) ^ 16 = 65536 from rfl]
   by_cases h3 : x / 65536 < 256
   ·rw [if_pos (by omega), if_neg (by omega), if_pos (by omega), if_pos (by omega), show ((x : Int) / 65536) % 256 = ((x / 65536 : Nat) : Int) by omega, base _ h3, e16]
    have hb : bl (x / 65536) ≤ 8 := bl_le_iff.2 (by rw [show (2 : Nat) ^ 8 = 256 from rfl]; omega)
    rw [w64 (x := ((bl (x / 65536) : Nat) : Int)) (by omega) (by omega), w64 (by omega) (by omega)]
    congr 1
    omega
   ·rw [if_pos (by omega), if_pos (by omega), if_pos (by omega), if_pos (by omega), show ((x : Int) / 65536) / 256 % 256 = ((x / 65536 / 256 : Nat) : Int) by omega, base _ (by omega), e16, up (x / 65536) (x / 65536 / 256) rfl (by omega)]
    have hb : bl (x / 65536 / 256) ≤ 8 := bl_le_iff.2 (by rw [show (2 : Nat) ^ 8 = 256 from rfl]; omega)
    rw [w64 (x := ((bl (x / 65536 / 256) : Nat) : Int)) (by omega) (by omega), w64 (by omega) (by omega)]
    congr 1
    omega
theorem pow32 (n : Nat) : 4294967296 ^ n = 2 ^ (32 * n) := by rw [Nat.pow_mul]
theorem V_div (l : List Int) (h : W l) (i : Nat) : V l / 4294967296 ^ i = V (l.drop i) := by
 rw [V_take_add l i]
 by_cases hi : i ≤ l.length
 ·rw [Nat.min_eq_left hi, Nat.add_mul_div_left _ _ (pow_pos i), Nat.div_eq_of_lt (V_take_lt h i), Nat.zero_add]
 ·rw [List.drop_eq_nil_of_le (by omega), V_nil, Nat.mul_zero, Nat.add_zero]
  exact Nat.div_eq_of_lt (V_take_lt h i)
theorem Bits_spec {l : List Int} (hG : G l) : Ev (fun k => nat_Bits.f k l) ((bl (V l) : Nat) : Int) := by
 have hU := U_le hG.1
 have hl := hG.2
 unfold nat_Bits.f
 refine Ev.bind (used_spec hG) ?_
 by_cases h0 : U l = 0
 ·rw [U_zero.1 h0, h0]
  exact Ev.ifp rfl (Ev.now _)
 ·refine Ev.ifn (by omega) ?_
  rw [w64_pred (by omega) (by omega), rd_nat]
  refine Ev.ifp (by omega) (Ev.ifp (by omega) (Ev.const ?_))
  have g := W_get hG.1 (U l - 1)
  obtain ⟨t, ht⟩ := Int.eq_ofNat_of_zero_le g.1
  have hl2 := U_last hG.1 h0
  rw [ht] at g hl2 ⊢
  rw [Len32_spec (by omega)]
  have hd : V (l.drop (U l - 1)) = t := by
   rw [V_drop_cons l (by omega), ht, show U l - 1 + 1 = U l by omega]
   have : V (l.drop (U l)) = 0 := by
    rw [← V_div l hG.1, Nat.div_eq_of_lt V_lt_U]
   rw [this]; simp
  have e : bl (V l) = bl t + 32 * (U l - 1) := by
   have h3 := bl_shift (n := V l) (k := 32 * (U l - 1)) (by rw [← pow32, V_div l hG.1, hd]; omega)
   rw [h3, ← pow32, V_div l hG.1, hd]
  have hb : bl t ≤ 32 := bl_le_iff.2 (by rw [show (2 : Nat) ^ 32 = 4294967296 from rfl]; omega)
  simp only [Option.bind_some]
  rw [w64 (x := 32 * ((U l - 1 : Nat) : Int)) (by omega) (by omega), w64 (by omega) (by omega), e]
  congr 1
  omega
theorem testBit_V {l : List Int} (h : W l) (i : Nat) : (V l).testBit i = decide ((l.getD (i / 32) 0).toNat / 2 ^ (i % 32) % 2 = 1) := by
 rw [Nat.testBit_eq_decide_div_mod_eq]
 congr 1
 have e : V l / 2 ^ i = V (l.drop (i / 32)) / 2 ^ (i % 32) := by
  rw [← V_div l h, pow32, Nat.div_div_eq_div_mul, ← Nat.pow_add, show 32 * (i / 32) + i % 32 = i by omega]
 rw [e]
 by_cases hi : i / 32 < l.length
 ·rw [V_drop_cons l hi]
  have e2 : (4294967296 : Nat) = 2 ^ (i % 32) * (2 * 2 ^ (31 - i % 32)) := by
   rw [← Nat.mul_assoc, ← Nat.pow_succ, ← Nat.pow_add, show (i % 32).succ + (31 - i % 32) = 32 by omega]
  rw [e2, Nat.mul_assoc, Nat.add_mul_div_left _ _ (Nat.two_pow_pos _), Nat.mul_assoc, Nat.add_mul_mod_self_left]
 ·rw [List.drop_eq_nil_of_le (by omega), V_nil, List.getD_eq_getElem?_getD, List.getElem?_eq_none (by omega)]
  simp
theorem Bit_spec {l : List Int} (hG : G l) (i : Nat) (hi : i < 9223372036854775808) : nat_Bit.f l (i : Int) = some ((V l).testBit i) := by
 have hl := hG.2
 unfold nat_Bit.f
 have e1 : Int.tdiv (i : Int) 32 = ((i / 32 : Nat) : Int) := by rw [Int.tdiv_eq_ediv_of_nonneg (by omega)]; omega
 have e2 : Int.tmod (i : Int) 32 = ((i % 32 : Nat) : Int) := by rw [Int.tmod_eq_emod_of_nonneg (by omega)]; omega
 rw [if_pos (by omega), e1, w64 (by omega) (by omega), e2, rd_nat, testBit_V hG.1]
 by_cases h : i / 32 < l.length
 ·rw [if_pos (by omega), if_pos (by omega), if_pos (by omega)]
  have g := W_get hG.1 (i / 32)
  obtain ⟨t, ht⟩ := Int.eq_ofNat_of_zero_le g.1
  rw [ht] at g ⊢
  congr 1
  have e3 : shr .u32 ((t : Nat) : Int) ((i % 32 : Nat) : Int) = ((t / 2 ^ (i % 32) : Nat) : Int) := by
   unfold shr
   rw [Int.toNat_natCast, Nat.min_eq_left (by show i % 32 ≤ 32; omega)]
   rw [Int.natCast_ediv, Int.natCast_pow]
   rfl
  rw [e3, show (1 : Int) = ((1 : Nat) : Int) from rfl, u32_and_nat _ _ (Nat.lt_of_le_of_lt (Nat.div_le_self _ _) (by omega)) (by decide), Nat.and_one_is_mod, Int.toNat_natCast]
  generalize t / 2 ^ (i % 32) % 2 = q
  by_cases hq : q = 1
  ·subst hq; rfl
  ·rw [decide_eq_false hq, beq_eq_false_iff_ne]
   omega
 ·rw [if_neg (by omega), List.getD_eq_getElem?_getD, List.getElem?_eq_none (by omega)]
  simp
end Go.Proofs.YtpchdjdochkjpaaGreatDoor.Lib
set_option linter.unusedVariables false
set_option linter.unusedSimpArgs false
namespace Go.Proofs.YtpchdjdochkjpaaGreatDoor.Lib
open Go.RowKit Go.Proofs.YtpchdjdochkjpaaGreatDoorW.PrintWords Go.Proofs.YtpchdjdochkjpaaGreatDoorW.PrintMore Go.Proofs.YtpchdjdochkjpaaGreatDoor.P
theorem drop_getD (l : List Int) {i : Nat} (h : i < l.length) : l.drop i = l.getD i 0 :: l.drop (i + 1) := by
 rw [List.drop_eq_getElem_cons h, List.getD_eq_getElem?_getD, List.getElem?_eq_getElem h]
 rfl
theorem keep_spec {a b : List Int} (ha : a.length ≤ 1000000) : Ev (fun k => steelyardkeep_Nat.f k a b) (decide (a = b)) := by
 unfold steelyardkeep_Nat.f
 by_cases hl : a.length = b.length
 ·have key : ∀ d i : Nat, a.length = i + d → Ev (fun k => steelyardkeep_Nat.l0 k a b (i : Int)) (decide (a.drop i = b.drop i)) := by
   intro d
   induction d with
   | zero =>
    intro i hi
    refine Ev.succ ?_
    simp only [steelyardkeep_Nat.l0]
    refine Ev.ifn (by omega) ?_
    rw [List.drop_eq_nil_of_le (by omega), List.drop_eq_nil_of_le (by omega)]
    exact Ev.now _
   | succ d ih =>
    intro i hi
    refine Ev.succ ?_
    simp only [steelyardkeep_Nat.l0, rd_nat]
    refine Ev.ifp (by omega) (Ev.ifp (by omega) (Ev.ifp (by omega) ?_))
    rw [drop_getD a (by omega), drop_getD b (by omega)]
    by_cases h : a.getD i 0 = b.getD i 0
    ·refine Ev.ifp h ?_
     rw [w64_succ (by omega)]
     refine Ev.eq (ih (i + 1) (by omega)) (decide_eq_decide.2 ?_)
     rw [h]
     exact ⟨fun e => by rw [e], fun e => (List.cons.inj e).2⟩
    ·refine Ev.ifn h ?_
     rw [decide_eq_false (fun e => h (List.cons.inj e).1)]
     exact Ev.now _
  exact Ev.ifp (by omega) (key a.length 0 (by omega))
 ·refine Ev.ifn (by omega) ?_
  rw [decide_eq_false (fun e => hl (by rw [e]))]
  exact Ev.now _
end Go.Proofs.YtpchdjdochkjpaaGreatDoor.Lib
set_option linter.unusedVariables false
set_option linter.unusedSimpArgs false
namespace Go.Proofs.YtpchdjdochkjpaaGreatDoor.Lib
open Go.RowKit Go.Proofs.YtpchdjdochkjpaaGreatDoorW.PrintWords Go.Proofs.YtpchdjdochkjpaaGreatDoorW.PrintMore Go.Proofs.YtpchdjdochkjpaaGreatDoor.P
theorem Of_inner {b r0 : List Int} (hb : W b) (hr : W r0) {x : Nat} (hx : x < 4294967296) (hlen : r0.length = b.length + 1) (hl : b.length ≤ 1000000) (out a : List Int) (na : Int) {i : Nat} (hi : i ≤ out.length) {R : List Int}
  (next : ∀ row' : List Int, row'.length = r0.length → W row' → (∃ c', V row' + 4294967296 ^ (b.length + 1) * c' = V r0 + x * V b) → Ev (fun k => mul_Of.l0 k b (cpy out i row') a na (wrap64 ((i : Int) + 1))) R) :
  ∀ d j (row : List Int) (c : Nat), b.length + 1 = j + d → row.length = r0.length → W row → c < 4294967296 → (∀ t, j ≤ t → row.getD t 0 = r0.getD t 0) →
   V (row.take j) + 4294967296 ^ j * c = V (r0.take j) + x * V (b.take j) →
   Ev (fun k => mul_Of.l1 k b out (i : Int) (x : Int) row (c : Int) a na (i : Int) ((b.length + 1 : Nat) : Int) (j : Int)) R := by
 intro d
 induction d with
 | zero =>
  intro j row c hj hrl hw hc hs hv
  refine Ev.succ ?_
  simp only [mul_Of.l1]
  refine Ev.ifn (by omega) (Ev.ifp (by omega) (Ev.ifp (by omega) ?_))
  rw [Int.toNat_natCast]
  refine next row hrl hw ⟨c, ?_⟩
  rw [V_take_all row (by omega), V_take_all r0 (by omega), V_take_all b (by omega)] at hv
  rw [← hv, show b.length + 1 = j by omega]
 | succ d ih =>
  intro j row c hj hrl hw hc hs hv
  refine Ev.succ ?_
  simp only [mul_Of.l1, rd_nat, hs j (Nat.le_refl _)]
  refine Ev.ifp (by omega) ?_
  have g1 := W_get hb j
  have g2 := W_get hr j
  obtain ⟨t, ht⟩ := Int.eq_ofNat_of_zero_le g1.1
  obtain ⟨r, hrr⟩ := Int.eq_ofNat_of_zero_le g2.1
  have hp : x * t ≤ 4294967295 * 4294967295 := Nat.mul_le_mul (by omega) (by omega)
  have fin : Ev (fun k => mul_Of.l1 k b out (i : Int) (x : Int) (row.set j (((c + x * t + r) % 4294967296 : Nat) : Int)) (((c + x * t + r) / 4294967296 : Nat) : Int) a na (i : Int) ((b.length + 1 : Nat) : Int) ((j + 1 : Nat) : Int)) R := by
   refine ih (j + 1) _ _ (by omega) (by rw [List.length_set]; exact hrl) (W_set hw j (by omega) (by omega)) (by omega) (fun t' ht' => by rw [get_set_ne _ _ (by omega)]; exact hs t' (by omega)) ?_
   rw [V_take_set _ _ _ (by omega), V_take_succ, V_take_succ, Nat.pow_succ, ht, hrr, Int.toNat_natCast, Int.toNat_natCast, Int.toNat_natCast]
   generalize 4294967296 ^ j = p at *
   have e2 : 4294967296 * ((c + x * t + r) / 4294967296) + (c + x * t + r) % 4294967296 = c + x * t + r := Nat.div_add_mod _ _
   have e3 := congrArg (p * ·) e2
   simp only [Nat.mul_add] at e3
   rw [Nat.mul_assoc p 4294967296, Nat.mul_add x, Nat.mul_left_comm x p t]
   omega
  by_cases hjb : j < b.length
  ·refine Ev.ifp (by omega) (Ev.ifp (by omega) (Ev.ifp (by omega) ?_))
   rw [ht, hrr, wu64 (x := (x : Int)) (by omega) (by omega), wu64 (x := (t : Int)) (by omega) (by omega), ← Int.natCast_mul, wu64 (x := ((x * t : Nat) : Int)) (by omega) (by omega),
    ← Int.natCast_add, wu64 (x := ((c + x * t : Nat) : Int)) (by omega) (by omega), wu64 (x := (r : Int)) (by omega) (by omega), ← Int.natCast_add, wu64 (x := ((c + x * t + r : Nat) : Int)) (by omega) (by omega),
    w64_succ (by omega), Int.toNat_natCast]
   exact fin
  ·refine Ev.ifn (by omega) (Ev.ifp (by omega) (Ev.ifp (by omega) ?_))
   have ht0 : t = 0 := by
    rw [List.getD_eq_getElem?_getD, List.getElem?_eq_none (by omega)] at ht
    simp at ht
    omega
   rw [hrr, wu64 (x := (r : Int)) (by omega) (by omega), ← Int.natCast_add, wu64 (x := ((c + r : Nat) : Int)) (by omega) (by omega), w64_succ (by omega), Int.toNat_natCast]
   rw [ht0, Nat.mul_zero, Nat.add_zero] at fin
   exact fin
theorem cpy_parts (out row : List Int) (i : Nat) (h : i + row.length ≤ out.length) : cpy out i row = out.take i ++ (row ++ out.drop (i + row.length)) := by
 unfold cpy
 rw [show row.take (out.length - i) = row from List.take_of_length_le (by omega)]
theorem Of_outer {a b : List Int} (ha : W a) (hb : W b) (hl : a.length + b.length ≤ 1000000) : ∀ d i (out : List Int), a.length = i + d → out.length = a.length + b.length → W out → V out = V (a.take i) * V b →
  Ev (fun k => mul_Of.l0 k b out a (a.length : Int) (i : Int)) (L (V a * V b)) := by
 intro d
 induction d with
 | zero =>
  intro i out hi ho hw hv
  refine Ev.succ ?_
  simp only [mul_Of.l0]
  refine Ev.ifn (by omega) (Ev.bind (Trim_spec ⟨hw, by omega⟩) ?_)
  rw [hv, V_take_all a (by omega)]
  exact Ev.now _
 | succ d ih =>
  intro i out hi ho hw hv
  refine Ev.succ ?_
  simp only [mul_Of.l0, rd_nat, Option.bind_some]
  have g := W_get ha i
  obtain ⟨x, hx⟩ := Int.eq_ofNat_of_zero_le g.1
  rw [w64_succ (by omega), Int.toNat_natCast, Int.toNat_natCast, hx]
  refine Ev.ifp (by omega) (Ev.ifp (by omega) (Ev.ifp (by omega) (Ev.ifp (by omega) (Ev.ifp (by omega) (Ev.ifp (by omega) ?_)))))
  rw [List.length_replicate]
  have hlen : (cpy (List.replicate (b.length + 1) 0) 0 (out.drop i)).length = b.length + 1 := by rw [cpy_length _ _ _ (by omega), List.length_replicate]
  have hr0 : cpy (List.replicate (b.length + 1) 0) 0 (out.drop i) = (out.drop i).take (b.length + 1) := cpy_take _ _ (by rw [List.length_drop]; omega)
  have hwr : W (cpy (List.replicate (b.length + 1) 0) 0 (out.drop i)) := by rw [hr0]; exact W_take (W_drop hw _) _
  refine Of_inner hb hwr (by omega) hlen (by omega) out a (a.length : Int) (by omega) (fun row hrl hrw hrv => ?_) (b.length + 1) 0 _ 0 (by omega) rfl hwr (by omega) (fun _ _ => rfl) (by simp [V])
  rw [hlen] at hrl
  obtain ⟨c', hc'⟩ := hrv
  rw [hr0] at hc'
  -- what lies in the row was below the number's own bound: no carry is left
  have hvo : V out < 4294967296 ^ (i + b.length) := by
   rw [hv]; exact mul_lt (V_take_lt ha i) (V_lt hb)
  have hdrop : V (out.drop i) < 4294967296 ^ b.length := by
   rw [← V_div out hw i]
   exact (Nat.div_lt_iff_lt_mul (pow_pos i)).2 (by rw [← Nat.pow_add, Nat.add_comm]; exact hvo)
  have htk : V ((out.drop i).take (b.length + 1)) = V (out.drop i) := by
   refine V_take_ge (W_drop hw i) ?_
   have := L_len_le hdrop
   have e : U (out.drop i) = (L (V (out.drop i))).length := rfl
   omega
  have htl : V (out.drop (i + (b.length + 1))) = 0 := by
   rw [← V_div out hw]
   exact Nat.div_eq_of_lt (lt_more hvo (by omega))
  rw [htk] at hc'
  have hxb : x * V b ≤ 4294967295 * V b := Nat.mul_le_mul_right _ (by omega)
  have hc0 : c' = 0 := by
   rcases Nat.eq_zero_or_pos c' with h | h
   ·exact h
   ·have h1 := Nat.mul_le_mul_left (4294967296 ^ (b.length + 1)) h
    have h2 := V_lt hb
    rw [Nat.pow_succ] at h1 hc'
    omega
  rw [hc0, Nat.mul_zero, Nat.add_zero] at hc'
  have hcp := cpy_parts out row i (by omega)
  rw [w64_succ (by omega)]
  refine ih (i + 1) _ (by omega) (by rw [cpy_length _ _ _ (by omega)]; exact ho) ?_ ?_
  ·rw [hcp, W_app, W_app]
   exact ⟨W_take hw _, hrw, W_drop hw _⟩
  ·rw [hcp, V_app, V_app, hrl, htl, Nat.mul_zero, Nat.add_zero, List.length_take, Nat.min_eq_left (by omega), hc', V_take_succ, hx, Int.toNat_natCast]
   have e1 := V_take_add out i
   rw [Nat.min_eq_left (by omega), hv] at e1
   rw [Nat.mul_add, ← Nat.add_assoc, ← e1, Nat.add_mul, Nat.mul_assoc]
theorem MulOf_spec {a b : List Int} (ha : W a) (hb : W b) (hl : a.length + b.length ≤ 1000000) : Ev (fun k => mul_Of.f k a b) (L (V a * V b)) := by
 have hUa := U_le ha
 have hUb := U_le hb
 have ea : (L (V a)).length = U a := rfl
 have eb : (L (V b)).length = U b := rfl
 unfold mul_Of.f
 refine Ev.bind (Trim_spec ⟨ha, by omega⟩) (Ev.bind (Trim_spec ⟨hb, by omega⟩) ?_)
 rw [← Int.natCast_add, w64 (by omega) (by omega), Int.toNat_natCast]
 refine Ev.ifp (by omega) (Ev.ifp (by omega) ?_)
 have := Of_outer (W_L (V a)) (W_L (V b)) (by omega) (L (V a)).length 0 (List.replicate ((L (V a)).length + (L (V b)).length) 0) (by omega) (by rw [List.length_replicate]) (W_rep _) (by rw [V_rep]; simp [V])
 rw [V_L, V_L] at this
 exact this
theorem W_one {v : Int} (h0 : 0 ≤ v) (h1 : v < 4294967296) : W [v] := by rw [W_cons]; exact ⟨⟨h0, h1⟩, W_nil⟩
theorem V_one (v : Int) : V [v] = v.toNat := by rw [V_cons, V_nil]; omega
theorem MulSmall_spec {a : List Int} (ha : W a) (hl : a.length < 1000000) {v : Int} (h0 : 0 ≤ v) (h1 : v < 4294967296) : Ev (fun k => mul_Small.f k a v) (L (V a * v.toNat)) := by
 unfold mul_Small.f
 refine Ev.bind (MulOf_spec ha (W_one h0 h1) (by simp; omega)) ?_
 rw [V_one]
 exact Ev.now _
theorem two_split (n : Nat) : 4294967296 ^ (n / 32) * 2 ^ (n % 32) = 2 ^ n := by
 rw [pow32, ← Nat.pow_add, show 32 * (n / 32) + n % 32 = n by omega]
theorem tdiv32 (n : Nat) : Int.tdiv (n : Int) 32 = ((n / 32 : Nat) : Int) := by rw [Int.tdiv_eq_ediv_of_nonneg (by omega)]; omega
theorem tmod32 (n : Nat) : Int.tmod (n : Int) 32 = ((n % 32 : Nat) : Int) := by rw [Int.tmod_eq_emod_of_nonneg (by omega)]; omega
theorem pow_lt_32 {s : Nat} (h : s < 32) : 2 ^ s ≤ 2147483648 := by
 have : 2 ^ s ≤ 2 ^ 31 := Nat.pow_le_pow_right (by omega) (by omega)
 exact this
theorem shl_one {s : Nat} (h : s < 32) : shl .u32 1 (s : Int) = ((2 ^ s : Nat) : Int) := by
 have := pow_lt_32 h
 unfold shl
 rw [Int.toNat_natCast, Nat.min_eq_left (by show s ≤ 32; omega), Int.one_mul, IntKind.wrap_u32]
 rw [show ((2 : Int) ^ s) = ((2 ^ s : Nat) : Int) by rw [Int.natCast_pow]; rfl]
 generalize 2 ^ s = q at *
 omega
theorem Up_spec {a : List Int} (ha : W a) (hl : a.length ≤ 900000) {n : Nat} (hn : n ≤ 1000000) : Ev (fun k => mul_up.f k a (n : Int)) (L (V a * 2 ^ n)) := by
 unfold mul_up.f
 rw [tdiv32, tmod32, w64 (x := ((n / 32 : Nat) : Int)) (by omega) (by omega), ← Int.natCast_add, w64 (x := ((n / 32 + a.length : Nat) : Int)) (by omega) (by omega), w64_succ (by omega), Int.toNat_natCast, Int.toNat_natCast]
 refine Ev.ifp (by omega) (Ev.ifp (by omega) ?_)
 simp only [Option.bind_some, List.length_replicate]
 refine Ev.ifp (by omega) (Ev.ifp (by omega) (Ev.ifp (by omega) ?_))
 have hp := pow_lt_32 (s := n % 32) (by omega)
 have hsp := two_split n
 rw [shl_one (by omega)]
 generalize 2 ^ (n % 32) = q at *
 have hcp : cpy (List.replicate (n / 32 + a.length + 1) 0) (n / 32) a = List.replicate (n / 32) 0 ++ (a ++ [0]) := by
  rw [cpy_parts _ _ _ (by rw [List.length_replicate]; omega), List.take_replicate, List.drop_replicate, Nat.min_eq_left (by omega), show n / 32 + a.length + 1 - (n / 32 + a.length) = 1 by omega]
  rfl
 have hW : W (cpy (List.replicate (n / 32 + a.length + 1) 0) (n / 32) a) := by
  rw [hcp, W_app, W_app]
  exact ⟨W_rep _, ha, W_one (by omega) (by omega)⟩
 refine Ev.bind (MulSmall_spec hW (by rw [cpy_length _ _ _ (by rw [List.length_replicate]; omega), List.length_replicate]; omega) (by omega) (by omega)) ?_
 rw [hcp, V_app, V_app, V_rep, List.length_replicate, Nat.zero_add, V_one, Int.toNat_natCast, ← hsp]
 rw [show (0 : Int).toNat = 0 from rfl, Nat.mul_zero, Nat.add_zero, Nat.mul_comm (4294967296 ^ (n / 32)) (V a), Nat.mul_assoc]
 exact Ev.now _
theorem or_high (h l : Nat) (hh : h < 4294967296) (hl : l < 4294967296) : Go.bits .or .u64 ((h : Int) * 4294967296) (l : Int) = ((h * 4294967296 + l : Nat) : Int) := by
 rw [show ((h : Int) * 4294967296) = ((h * 4294967296 : Nat) : Int) by omega, u64_or_nat _ _ (by omega) (by omega)]
 congr 1
 have := Nat.two_pow_add_eq_or_of_lt (i := 32) (b := l) (by omega) h
 rw [show (2 : Nat) ^ 32 = 4294967296 from rfl] at this
 rw [Nat.mul_comm h]
 exact this.symm
theorem shr_u64 (x s : Nat) (hs : s < 32) : shr .u64 (x : Int) (s : Int) = ((x / 2 ^ s : Nat) : Int) := by
 unfold shr
 rw [Int.toNat_natCast, Nat.min_eq_left (by show s ≤ 64; omega), Int.natCast_ediv, Int.natCast_pow]
 rfl
theorem down_limb {t : List Int} (ht : W t) (i s : Nat) (hs : s < 32) : V t / 2 ^ s / 4294967296 ^ i % 4294967296 = ((t.getD (i + 1) 0).toNat * 4294967296 + (t.getD i 0).toNat) / 2 ^ s % 4294967296 := by
 rw [Nat.div_div_eq_div_mul, Nat.mul_comm, ← Nat.div_div_eq_div_mul, V_div t ht i]
 have hpow : (4294967296 : Nat) = 2 ^ s * 2 ^ (32 - s) := by rw [← Nat.pow_add, show s + (32 - s) = 32 by omega]
 have key : ∀ x y z : Nat, (x + 4294967296 * (y + 4294967296 * z)) / 2 ^ s % 4294967296 = (y * 4294967296 + x) / 2 ^ s % 4294967296 := by
  intro x y z
  have e : x + 4294967296 * (y + 4294967296 * z) = (y * 4294967296 + x) + 2 ^ s * (2 ^ (32 - s) * z * 4294967296) := by
   have e2 : 2 ^ s * (2 ^ (32 - s) * z * 4294967296) = 4294967296 * (z * 4294967296) := by
    rw [← Nat.mul_assoc, ← Nat.mul_assoc, ← hpow, Nat.mul_assoc]
   rw [e2, Nat.mul_add, Nat.mul_comm y, Nat.mul_comm z]
   omega
  rw [e, Nat.add_mul_div_left _ _ (Nat.two_pow_pos _), Nat.add_mul_mod_self_right]
 by_cases h1 : i < t.length
 ·rw [V_drop_cons t h1]
  by_cases h2 : i + 1 < t.length
  ·rw [V_drop_cons t h2]; exact key _ _ _
  ·rw [List.drop_eq_nil_of_le (by omega), V_nil]
   rw [show t.getD (i + 1) 0 = 0 by rw [List.getD_eq_getElem?_getD, List.getElem?_eq_none (by omega)]; rfl]
   simp
 ·rw [List.drop_eq_nil_of_le (by omega), V_nil, show t.getD (i + 1) 0 = 0 by rw [List.getD_eq_getElem?_getD, List.getElem?_eq_none (by omega)]; rfl, show t.getD i 0 = 0 by rw [List.getD_eq_getElem?_getD, List.getElem?_eq_none (by omega)]; rfl]
  simp
theorem Down_loop {t : List Int} (ht : W t) (hl : t.length ≤ 1000000) {n : Nat} (hn : n < 4611686018427387904) : ∀ d i (out : List Int), t.length = i + d → out.length = t.length → W out → (∀ j, i ≤ j → out.getD j 0 = t.getD j 0) →
  V (out.take i) = V t / 2 ^ (n % 32) % 4294967296 ^ i → Ev (fun k => mul_down.l0 k (n : Int) out (t.length : Int) (i : Int)) (L (V t / 2 ^ (n % 32))) := by
 intro d
 induction d with
 | zero =>
  intro i out hi ho hw hs hv
  refine Ev.succ ?_
  simp only [mul_down.l0]
  refine Ev.ifn (by omega) (Ev.bind (Trim_spec ⟨hw, by omega⟩) ?_)
  rw [V_take_all out (by omega)] at hv
  rw [hv, Nat.mod_eq_of_lt]
  ·exact Ev.now _
  ·refine Nat.lt_of_le_of_lt (Nat.div_le_self _ _) (lt_more (V_lt ht) (by omega))
 | succ d ih =>
  intro i out hi ho hw hs hv
  refine Ev.succ ?_
  simp only [mul_down.l0, tmod32]
  rw [w64_succ (by omega)]
  have g1 := W_get ht i
  have g2 := W_get ht (i + 1)
  obtain ⟨x, hx⟩ := Int.eq_ofNat_of_zero_le g1.1
  obtain ⟨y, hy⟩ := Int.eq_ofNat_of_zero_le g2.1
  have fin : Ev (fun k => mul_down.l0 k (n : Int) (out.set i (((y * 4294967296 + x) / 2 ^ (n % 32) % 4294967296 : Nat) : Int)) (t.length : Int) ((i + 1 : Nat) : Int)) (L (V t / 2 ^ (n % 32))) := by
   refine ih (i + 1) _ (by omega) (by rw [List.length_set]; exact ho) (W_set hw i (by omega) (by omega)) (fun j hj => by rw [get_set_ne _ _ (by omega)]; exact hs j (by omega)) ?_
   rw [V_take_set _ _ _ (by omega), hv, Nat.mod_pow_succ, down_limb ht i _ (by omega), hx, hy, Int.toNat_natCast, Int.toNat_natCast, Int.toNat_natCast]
  refine Ev.ifp (by omega) ?_
  simp only [rd_nat, hs i (Nat.le_refl _), hs (i + 1) (by omega), hx, hy]
  by_cases h2 : i + 1 < t.length
  ·refine Ev.ifp (by omega) (Ev.ifp (by omega) (Ev.ifp (by omega) (Ev.ifp (by omega) (Ev.ifp (by omega) ?_))))
   rw [wu64 (x := (y : Int)) (by omega) (by omega), wu64 (x := (x : Int)) (by omega) (by omega), wu64 (x := (y : Int) * 4294967296) (by omega) (by omega), or_high y x (by omega) (by omega), shr_u64 _ _ (by omega),
    show (4294967296 : Int) = ((4294967296 : Nat) : Int) from rfl, ← Int.natCast_emod, Int.toNat_natCast]
   exact fin
  ·refine Ev.ifn (by omega) (Ev.ifp (by omega) (Ev.ifp (by omega) (Ev.ifp (by omega) ?_)))
   have hy0 : y = 0 := by
    rw [List.getD_eq_getElem?_getD, List.getElem?_eq_none (by omega)] at hy
    simp at hy
    omega
   have := or_high 0 x (by omega) (by omega)
   rw [show ((0 : Nat) : Int) * 4294967296 = 0 by rfl] at this
   rw [hy0] at fin
   rw [wu64 (x := (x : Int)) (by omega) (by omega), this, shr_u64 _ _ (by omega),
    show (4294967296 : Int) = ((4294967296 : Nat) : Int) from rfl, ← Int.natCast_emod, Int.toNat_natCast]
   exact fin
theorem Down_spec {a : List Int} (ha : W a) (hl : a.length ≤ 1000000) {n : Nat} (hn : n < 4611686018427387904) : Ev (fun k => mul_down.f k a (n : Int)) (L (V a / 2 ^ n)) := by
 unfold mul_down.f
 rw [tdiv32, w64 (by omega) (by omega), Int.toNat_natCast]
 have e : V a / 2 ^ n = V (a.drop (n / 32)) / 2 ^ (n % 32) := by
  rw [← V_div a ha, pow32, Nat.div_div_eq_div_mul, ← Nat.pow_add, show 32 * (n / 32) + n % 32 = n by omega]
 rw [e]
 by_cases h : a.length ≤ n / 32
 ·refine Ev.ifp (by omega) ?_
  rw [List.drop_eq_nil_of_le h, V_nil, Nat.zero_div, L_zero]
  exact Ev.now _
 ·have hd : (a.drop (n / 32)).length ≤ 1000000 := by rw [List.length_drop]; omega
  refine Ev.ifn (by omega) (Ev.ifp (by omega) (Ev.ifp (by omega) (Ev.bind (Trim_spec ⟨W_drop ha _, hd⟩) ?_)))
  have hU := U_le (W_drop ha (n / 32))
  have eU : (L (V (a.drop (n / 32)))).length = U (a.drop (n / 32)) := rfl
  have := Down_loop (W_L (V (a.drop (n / 32)))) (by omega) hn _ 0 (L (V (a.drop (n / 32)))) (Nat.zero_add _).symm rfl (W_L _) (fun _ _ => rfl) (by rw [List.take_zero, V_nil, Nat.pow_zero, Nat.mod_one])
  rw [V_L] at this
  exact this
def shf (x : Nat) (n : Int) : Nat := if n ≥ 0 then x * 2 ^ (min n.toNat 8192) else if n < -8192 then 0 else x / 2 ^ (-n).toNat
theorem Shift_spec {a : List Int} (ha : W a) (hl : a.length ≤ 900000) {n : Int} (h0 : -9223372036854775808 ≤ n) (h1 : n < 9223372036854775808) : Ev (fun k => mul_Shift.f k a n) (L (shf (V a) n)) := by
 unfold mul_Shift.f shf
 by_cases c : n ≥ 0
 ·rw [if_pos c]
  refine Ev.ifp c ?_
  obtain ⟨m, rfl⟩ := Int.eq_ofNat_of_zero_le c
  rw [show (8192 : Int) = ((8192 : Nat) : Int) from rfl, mn_nat, Int.toNat_natCast]
  exact Ev.bind (Up_spec ha hl (by omega)) (Ev.now _)
 ·rw [if_neg c]
  refine Ev.ifn c ?_
  by_cases c2 : n < -8192
  ·rw [if_pos c2, L_zero]
   exact Ev.ifp c2 (Ev.now _)
  ·rw [if_neg c2]
   refine Ev.ifn c2 ?_
   obtain ⟨m, hm⟩ := Int.eq_ofNat_of_zero_le (show 0 ≤ -n by omega)
   rw [w64 (by omega) (by omega), hm, Int.toNat_natCast]
   exact Ev.bind (Down_spec ha (by omega) (by omega)) (Ev.now _)
def powR (A n : Nat) : List Int × Bool := if A ^ n < 4294967296 ^ 256 then (L (A ^ n), true) else ([], false)
theorem one_lt_256 : 1 < 4294967296 ^ 256 := by
 have : 4294967296 ^ 1 ≤ 4294967296 ^ 256 := pow_le (by omega)
 rw [Nat.pow_one] at this
 generalize 4294967296 ^ 256 = p at *
 omega
theorem pow_le_of {A m n : Nat} (h : m ≤ n) (hm : ¬ A ^ m < 4294967296 ^ 256) : ¬ A ^ n < 4294967296 ^ 256 := by
 rcases Nat.eq_zero_or_pos A with h0 | h0
 ·subst h0
  exfalso
  apply hm
  refine Nat.lt_of_le_of_lt (m := 1) ?_ one_lt_256
  cases m with
  | zero => simp
  | succ m => simp
 ·have := Nat.pow_le_pow_right h0 h
  omega
theorem bit_split (n i : Nat) : n / 2 ^ i = 2 * (n / 2 ^ (i + 1)) + (if n.testBit i then 1 else 0) := by
 rw [Nat.testBit_eq_decide_div_mod_eq, Nat.pow_succ, ← Nat.div_div_eq_div_mul]
 generalize n / 2 ^ i = q
 by_cases h : q % 2 = 1
 ·rw [decide_eq_true h]; simp; omega
 ·rw [decide_eq_false h]; simp; omega
theorem Pow_loop {a : List Int} (ha : W a) (hl : a.length ≤ 300000) {n : Nat} (hn : n < 9223372036854775808) : ∀ i : Nat, i ≤ 64 → V a ^ (n / 2 ^ i) < 4294967296 ^ 256 →
  Ev (fun k => mul_Pow.l0 k a (L (V a ^ (n / 2 ^ i))) (L n) ((i : Int) - 1)) (powR (V a) n) := by
 intro i
 induction i with
 | zero =>
  intro _ h
  refine Ev.succ ?_
  simp only [mul_Pow.l0]
  refine Ev.ifn (by omega) ?_
  rw [Nat.pow_zero, Nat.div_one] at h ⊢
  unfold powR
  rw [if_pos h]
  exact Ev.now _
 | succ i ih =>
  intro hi h
  have hlen := L_len_le h
  have hGn : G (L n) := G_L (n := n) (m := 2) (by rw [show 4294967296 ^ 2 = 18446744073709551616 by rfl]; omega) (by omega)
  refine Ev.succ ?_
  simp only [mul_Pow.l0]
  rw [show (((i + 1 : Nat) : Int) - 1) = (i : Int) by omega, Bit_spec hGn i (by omega), V_L]
  refine Ev.ifp (by omega) (Ev.bind (MulOf_spec (W_L _) (W_L _) (by omega)) ?_)
  have e1 : V (L (V a ^ (n / 2 ^ (i + 1)))) * V (L (V a ^ (n / 2 ^ (i + 1)))) = V a ^ (2 * (n / 2 ^ (i + 1))) := by rw [V_L, ← Nat.pow_add, Nat.two_mul]
  have hsp := bit_split n i
  have hle : n / 2 ^ i ≤ n := Nat.div_le_self _ _
  rw [e1]
  by_cases h2 : V a ^ (2 * (n / 2 ^ (i + 1))) < 4294967296 ^ 256
  ·have hlen2 := L_len_le h2
   refine Ev.ifn (by omega) ?_
   simp only [Option.bind_some]
   by_cases hb : n.testBit i = true
   ·rw [hb, if_pos rfl] at hsp
    refine Ev.ifp hb (Ev.bind (MulOf_spec (W_L _) ha (by omega)) ?_)
    rw [V_L, ← Nat.pow_succ, show (2 * (n / 2 ^ (i + 1))).succ = n / 2 ^ i by omega]
    by_cases h3 : V a ^ (n / 2 ^ i) < 4294967296 ^ 256
    ·have hlen3 := L_len_le h3
     refine Ev.ifn (by omega) ?_
     rw [w64 (by omega) (by omega)]
     exact ih (by omega) h3
    ·have : ¬ (L (V a ^ (n / 2 ^ i))).length ≤ 256 := fun e => h3 (lt_of_len e)
     refine Ev.ifp (by omega) ?_
     unfold powR
     rw [if_neg (pow_le_of hle h3)]
     exact Ev.now _
   ·have hb' : n.testBit i = false := by simpa using hb
    rw [hb', if_neg (by decide), Nat.add_zero] at hsp
    refine Ev.ifn hb ?_
    rw [w64 (by omega) (by omega)]
    have := ih (by omega) (by rw [hsp]; exact h2)
    rw [hsp] at this
    exact this
  ·have : ¬ (L (V a ^ (2 * (n / 2 ^ (i + 1))))).length ≤ 256 := fun e => h2 (lt_of_len e)
   refine Ev.ifp (by omega) ?_
   unfold powR
   rw [if_neg (pow_le_of (by split at hsp <;> omega) h2)]
   exact Ev.now _
theorem Pow_spec {a : List Int} (ha : W a) (hl : a.length ≤ 300000) {n : Int} (h0 : -9223372036854775808 ≤ n) (h1 : n < 9223372036854775808) : Ev (fun k => mul_Pow.f k a n) (if n < 0 then ([], false) else powR (V a) n.toNat) := by
 unfold mul_Pow.f
 by_cases c : n < 0
 ·rw [if_pos c]
  exact Ev.ifp c (Ev.now _)
 ·rw [if_neg c]
  obtain ⟨m, rfl⟩ := Int.eq_ofNat_of_zero_le (show 0 ≤ n by omega)
  rw [Int.toNat_natCast, wu64 (by omega) (by omega)]
  have hGn : G (L m) := G_L (n := m) (m := 2) (by rw [show 4294967296 ^ 2 = 18446744073709551616 by rfl]; omega) (by omega)
  refine Ev.ifn c (Ev.bind (Of_spec (by omega) (by omega)) (Ev.bind (Of_spec (by omega) (by omega)) ?_))
  rw [Int.toNat_natCast]
  refine Ev.bind (Bits_spec hGn) ?_
  rw [V_L]
  have hb : bl m ≤ 64 := bl_le_iff.2 (by omega)
  rw [w64 (by omega) (by omega)]
  have e0 : m / 2 ^ bl m = 0 := Nat.div_eq_of_lt (bl_lt m)
  have := Pow_loop ha hl (n := m) (by omega) (bl m) hb (by rw [e0, Nat.pow_zero]; exact one_lt_256)
  rw [e0, Nat.pow_zero] at this
  exact this
end Go.Proofs.YtpchdjdochkjpaaGreatDoor.Lib
set_option linter.unusedVariables false
set_option linter.unusedSimpArgs false
namespace Go.Proofs.YtpchdjdochkjpaaGreatDoor.Lib
open Go.RowKit Go.Proofs.YtpchdjdochkjpaaGreatDoorW.PrintWords Go.Proofs.YtpchdjdochkjpaaGreatDoorW.PrintMore Go.Proofs.YtpchdjdochkjpaaGreatDoor.P
def Bp (m : Nat) : Nat := 4294967296 ^ m
def S (m : Nat) (l : List Int) : Prop := W l ∧ l.length ≤ m
section
variable {m p n x y : Nat} {l a b : List Int}
theorem S.v (h : S m l) : V l < Bp m := G_V h.1 h.2
theorem S.g (h : S m l) (hm : m ≤ 1000000) : G l := ⟨h.1, Nat.le_trans h.2 hm⟩
theorem S.up (h : S m l) (hm : m ≤ p) : S p l := ⟨h.1, Nat.le_trans h.2 hm⟩
theorem S_L (h : n < Bp m) : S m (L n) := ⟨W_L n, L_len_le h⟩
theorem S_nil : S m [] := ⟨W_nil, by simp⟩
theorem S_of (h : W l) (hl : ¬ (l.length : Int) > m) : S m l := ⟨h, by omega⟩
theorem Bp_le (h : m ≤ n) : Bp m ≤ Bp n := pow_le h
theorem Bp_pos : 0 < Bp m := pow_pos m
theorem lt_up (h : x < Bp m) (k : m ≤ n) : x < Bp n := Nat.lt_of_lt_of_le h (Bp_le k)
theorem lt_add (h : x < Bp m) (k : y < Bp m) (hp : m < p) : x + y < Bp p := by
 refine lt_up (m := m + 1) ?_ (by omega)
 have e : Bp (m + 1) = Bp m * 4294967296 := Nat.pow_succ _ _
 rw [e]
 generalize Bp m = q at *
 omega
theorem lt_mul (h : x < Bp m) (k : y < Bp n) (hp : m + n ≤ p) : x * y < Bp p := lt_up (m := m + n) (mul_lt h k) hp
theorem lt_le (h : y < Bp m) (k : x ≤ y) : x < Bp m := Nat.lt_of_le_of_lt k h
theorem lt_num (h : x < 18446744073709551616) (hm : 2 ≤ m) : x < Bp m := lt_up (m := 2) (by rw [show Bp 2 = 18446744073709551616 from rfl]; exact h) hm
theorem bl_Bp (h : x < Bp m) : bl x ≤ 32 * m := bl_le_iff.2 (by rw [← pow32]; exact h)
theorem bl_S (s : S m l) : bl (V l) ≤ 32 * m := bl_Bp s.v
theorem two_lt {i : Nat} (h : i < 32 * m) : 2 ^ i < Bp m := by
 unfold Bp
 rw [pow32]
 exact Nat.pow_lt_pow_right (by omega) h
theorem Sub_to (sa : S m a) (sb : S m b) (hm : m ≤ 1000000) (h : V a = V b + n) : Ev (fun k => nat_Sub.f k a b) (L n, true) := by
 have := Sub_spec (sa.g hm) (sb.g hm)
 rw [if_neg (by omega), show V a - V b = n by omega] at this
 exact this
theorem Sub_no (sa : S m a) (sb : S m b) (hm : m ≤ 1000000) (h : V a < V b) : Ev (fun k => nat_Sub.f k a b) ([], false) := by
 have := Sub_spec (sa.g hm) (sb.g hm)
 rw [if_pos h] at this
 exact this
theorem Cmp_to (sa : S m a) (sb : S m b) (hm : m ≤ 1000000) {c : Int} (h : cmpI (V a) (V b) = c) : Ev (fun k => nat_Cmp.f k a b) c := h ▸ Cmp_spec (sa.g hm) (sb.g hm)
theorem Trim_to (sa : S m a) (hm : m ≤ 1000000) (h : V a = n) : Ev (fun k => nat_Trim.f k a) (L n) := h ▸ Trim_spec (sa.g hm)
theorem Of_to {v : Int} (h0 : 0 ≤ v) (h1 : v < 18446744073709551616) (h : v.toNat = n) : Ev (fun k => nat_Of.f k v) (L n) := h ▸ Of_spec h0 h1
theorem keep_to (sa : S m a) (hm : m ≤ 1000000) (h : a = b) : Ev (fun k => steelyardkeep_Nat.f k a b) true := by
 have := keep_spec (b := b) (Nat.le_trans sa.2 hm)
 rw [decide_eq_true h] at this
 exact this
end
theorem cmpI_range (x y : Nat) : cmpI x y = -1 ∧ x < y ∨ cmpI x y = 0 ∧ x = y ∨ cmpI x y = 1 ∧ y < x := by
 unfold cmpI
 by_cases h : x < y
 ·rw [if_pos h]; exact .inl ⟨rfl, h⟩
 ·rw [if_neg h]
  by_cases h2 : y < x
  ·rw [if_pos h2]; exact .inr (.inr ⟨rfl, h2⟩)
  ·rw [if_neg h2]; exact .inr (.inl ⟨rfl, by omega⟩)
end Go.Proofs.YtpchdjdochkjpaaGreatDoor.Lib
set_option linter.unusedVariables false
set_option linter.unusedSimpArgs false
namespace Go.Proofs.YtpchdjdochkjpaaGreatDoor.Lib
open Go.RowKit Go.Proofs.YtpchdjdochkjpaaGreatDoorW.PrintWords Go.Proofs.YtpchdjdochkjpaaGreatDoorW.PrintMore Go.Proofs.YtpchdjdochkjpaaGreatDoor.P
theorem rat_spec {l : List Int} (h : W l) (i : Nat) : steelyardref01_at.f l (i : Int) = some (l.getD i 0) := by
 unfold steelyardref01_at.f
 by_cases hi : i < l.length
 ·have g := W_get h i
  rw [if_neg (by omega), if_pos (by omega), if_pos (by omega), rd_nat, wu64 (by omega) (by omega)]
 ·rw [if_pos (by omega), List.getD_eq_getElem?_getD, List.getElem?_eq_none (by omega)]
  rfl
theorem rTrim_spec {l : List Int} (hG : G l) : Ev (fun k => steelyardref01_Trim.f k l) (L (V l)) := by
 obtain ⟨h, hl⟩ := hG
 have hU := U_le h
 have eU : (L (V l)).length = U l := rfl
 have key : ∀ d i : Nat, i = U l + d → i ≤ l.length → Ev (fun k => steelyardref01_Trim.l0 k l (i : Int)) (L (V l)) := by
  intro d
  induction d with
  | zero =>
   intro i hi hil
   obtain rfl : i = U l := by omega
   refine Ev.succ ?_
   simp only [steelyardref01_Trim.l0, Option.bind_some, List.nil_append, List.length_nil, Int.toNat_natCast, List.length_take, take_U h]
   by_cases h0 : U l = 0
   ·exact Ev.ifn (by omega) (Ev.ifp (by omega) (Ev.ifp (by omega) (Ev.ifp (by omega) (Ev.now _))))
   ·rw [w64_pred (by omega) (by omega), rd_nat]
    exact Ev.ifp (by omega) (Ev.ifp (by omega) (Ev.ifp (by omega) (Ev.ifn (U_last h h0) (Ev.ifp (by omega) (Ev.ifp (by omega) (Ev.ifp (by omega) (Ev.now _)))))))
  | succ d ih =>
   intro i hi hil
   refine Ev.succ ?_
   simp only [steelyardref01_Trim.l0]
   rw [w64_pred (by omega) (by omega), rd_nat]
   exact Ev.ifp (by omega) (Ev.ifp (by omega) (Ev.ifp (by omega) (Ev.ifp (tail_zero h (by omega)) (ih (i - 1) (by omega) (by omega)))))
 exact key (l.length - U l) l.length (by omega) (Nat.le_refl _)
section
variable {m p n x y : Nat} {l a b : List Int}
theorem rTrim_to (sa : S m a) (hm : m ≤ 1000000) (h : V a = n) : Ev (fun k => steelyardref01_Trim.f k a) (L n) := h ▸ rTrim_spec (sa.g hm)
theorem rOf_to {v : Int} (h0 : 0 ≤ v) (h1 : v < 18446744073709551616) (h : v.toNat = n) : Ev (fun k => steelyardref01_Of.f k v) (L n) := by
 have hW : W [v % 4294967296, (v / 4294967296) % 4294967296] := by
  rw [W_cons, W_cons]
  exact ⟨by omega, by omega, W_nil⟩
 have hV : V [v % 4294967296, (v / 4294967296) % 4294967296] = n := by
  simp only [V_cons, V_nil]
  omega
 unfold steelyardref01_Of.f
 exact Ev.bind (rTrim_to (m := 2) ⟨hW, by simp⟩ (by omega) hV) (Ev.now _)
theorem rCmp_to (sa : S m a) (sb : S m b) (hm : m ≤ 1000000) {c : Int} (h : cmpI (V a) (V b) = c) : Ev (fun k => steelyardref01_Cmp.f k a b) c := by
 have hla := sa.2
 have hlb := sb.2
 have key : ∀ i : Nat, i ≤ 1000000 → Ev (fun k => steelyardref01_Cmp.l0 k a b ((i : Int) - 1)) (cmpI (V (a.take i)) (V (b.take i))) := by
  intro i
  induction i with
  | zero =>
   intro _
   refine Ev.succ ?_
   simp only [steelyardref01_Cmp.l0]
   refine Ev.ifn (by omega) ?_
   simp only [List.take_zero, cmpI_eq]
   exact Ev.now _
  | succ i ih =>
   intro h1
   refine Ev.succ ?_
   simp only [steelyardref01_Cmp.l0]
   rw [show (((i + 1 : Nat) : Int) - 1) = (i : Int) by omega]
   simp only [rat_spec sa.1, rat_spec sb.1, Option.bind_some]
   refine Ev.ifp (by omega) ?_
   have g1 := W_get sa.1 i
   have g2 := W_get sb.1 i
   have t1 := V_take_lt sa.1 i
   have t2 := V_take_lt sb.1 i
   rw [V_take_succ, V_take_succ]
   by_cases c1 : a.getD i 0 < b.getD i 0
   ·rw [cmpI_lt (cmp_step t1 t2 (by omega))]
    exact Ev.ifp c1 (Ev.now _)
   ·refine Ev.ifn c1 ?_
    by_cases c2 : a.getD i 0 > b.getD i 0
    ·rw [cmpI_gt (cmp_step t2 t1 (by omega))]
     exact Ev.ifp c2 (Ev.now _)
    ·refine Ev.ifn c2 ?_
     rw [w64 (by omega) (by omega), show (a.getD i 0).toNat = (b.getD i 0).toNat by omega, cmpI_add]
     exact ih (by omega)
 unfold steelyardref01_Cmp.f
 rw [mx_nat, w64 (by omega) (by omega)]
 refine Ev.eq (key (max a.length b.length) (by omega)) ?_
 rw [V_take_all a (by omega), V_take_all b (by omega), h]
theorem W_snoc {l : List Int} {x : Int} (h : W l) (h0 : 0 ≤ x) (h1 : x < 4294967296) : W (l ++ [x]) := by
 rw [W_app, W_cons]
 exact ⟨h, ⟨h0, h1⟩, W_nil⟩
theorem V_snoc (l : List Int) (x : Int) : V (l ++ [x]) = V l + 4294967296 ^ l.length * x.toNat := by
 rw [V_app, V_cons, V_nil, Nat.mul_zero, Nat.add_zero]
theorem rAdd_to (sa : S m a) (sb : S m b) (hm : m < 1000000) (h : V a + V b = n) : Ev (fun k => steelyardref01_Add.f k a b) (L n) := by
 have hla := sa.2
 have hlb := sb.2
 -- from round i on, with what is left
 have key : ∀ d i (out : List Int) (c : Nat), m + 2 ≤ i + d → i ≤ m + 1 → out.length = i → W out → c ≤ 1 → V out + 4294967296 ^ i * c = V (a.take i) + V (b.take i) → (m + 1 = i → c = 0) →
   Ev (fun k => steelyardref01_Add.l0 k a b out (c : Int) (i : Int)) (L n) := by
  intro d
  induction d with
  | zero => intro i out c h1 h2; omega
  | succ d ih =>
   intro i out c h1 h2 ho hw hc hv hlast
   have stop : ¬ i < a.length → ¬ i < b.length → c = 0 → Ev (fun k => steelyardref01_Add.j1 k a b out (c : Int) (i : Int) false) (L n) := by
    intro n1 n2 n3
    refine Ev.succ ?_
    simp only [steelyardref01_Add.j1]
    refine Ev.ifn (by decide) (Ev.bind (rTrim_to (m := 1000000) ⟨hw, by omega⟩ (by omega) ?_) (Ev.now _))
    rw [V_take_all a (by omega), V_take_all b (by omega), n3, Nat.mul_zero, Nat.add_zero] at hv
    rw [hv, h]
   have more : i ≤ m → Ev (fun k => steelyardref01_Add.j1 k a b out (c : Int) (i : Int) true) (L n) := by
    intro him
    refine Ev.succ ?_
    simp only [steelyardref01_Add.j1, rat_spec sa.1, rat_spec sb.1, Option.bind_some]
    have g1 := W_get sa.1 i
    have g2 := W_get sb.1 i
    obtain ⟨x, hx⟩ := Int.eq_ofNat_of_zero_le g1.1
    obtain ⟨y, hy⟩ := Int.eq_ofNat_of_zero_le g2.1
    rw [hx, hy, ← Int.natCast_add, wu64 (x := ((x + y : Nat) : Int)) (by omega) (by omega), ← Int.natCast_add, wu64 (x := ((c + (x + y) : Nat) : Int)) (by omega) (by omega), w64_succ (by omega),
     show ((c + (x + y) : Nat) : Int) / 4294967296 = (((c + (x + y)) / 4294967296 : Nat) : Int) by omega, show ((c + (x + y) : Nat) : Int) % 4294967296 = (((c + (x + y)) % 4294967296 : Nat) : Int) by omega]
    refine Ev.ifp trivial (Ev.ifp (by omega) ?_)
    have hv' : V (out ++ [(((c + (x + y)) % 4294967296 : Nat) : Int)]) + 4294967296 ^ (i + 1) * ((c + (x + y)) / 4294967296) = V (a.take (i + 1)) + V (b.take (i + 1)) := by
     rw [V_snoc, V_take_succ, V_take_succ, ho, hx, hy, Int.toNat_natCast, Int.toNat_natCast, Int.toNat_natCast, Nat.pow_succ]
     generalize 4294967296 ^ i = q at *
     have e2 : 4294967296 * ((c + (x + y)) / 4294967296) + (c + (x + y)) % 4294967296 = c + (x + y) := Nat.div_add_mod _ _
     have e3 := congrArg (q * ·) e2
     simp only [Nat.mul_add] at e3
     rw [Nat.mul_assoc q 4294967296]
     omega
    refine ih (i + 1) _ _ (by omega) (by omega) (by rw [List.length_append, ho]; rfl) (W_snoc hw (by omega) (by omega)) (by omega) hv' (fun e => ?_)
    rw [V_take_all a (by omega), V_take_all b (by omega), h] at hv'
    refine carry_zero hv' ?_
    rw [← h, ← e]
    exact lt_add sa.v sb.v (by omega)
   refine Ev.succ ?_
   simp only [steelyardref01_Add.l0]
   by_cases n1 : i < a.length
   ·exact Ev.ifp (by omega) (more (by omega))
   ·refine Ev.ifn (by omega) ?_
    by_cases n2 : i < b.length
    ·exact Ev.ifp (by omega) (more (by omega))
    ·refine Ev.ifn (by omega) ?_
     by_cases n3 : c = 0
     ·rw [decide_eq_false (by omega)]
      exact stop n1 n2 n3
     ·rw [decide_eq_true (by omega)]
      exact more (by omega)
 unfold steelyardref01_Add.f
 exact key (m + 2) 0 [] 0 (by omega) (by omega) rfl W_nil (by omega) (by simp [V]) (fun _ => rfl)
theorem rSub_to (sa : S m a) (sb : S m b) (hm : m ≤ 1000000) (h : V a = V b + n) : Ev (fun k => steelyardref01_Sub.f k a b) (L n) := by
 have hla := sa.2
 have hUb : U b ≤ a.length := by
  have h1 := V_lt sa.1
  exact L_len_le (Nat.lt_of_le_of_lt (by omega) h1)
 have key : ∀ d i (out : List Int) (c : Nat), a.length = i + d → out.length = i → W out → c ≤ 1 → V out + V (b.take i) = V (a.take i) + 4294967296 ^ i * c →
   Ev (fun k => steelyardref01_Sub.l0 k a b out (c : Int) (i : Int)) (L n) := by
  intro d
  induction d with
  | zero =>
   intro i out c hi ho hw hc hv
   refine Ev.succ ?_
   simp only [steelyardref01_Sub.l0]
   refine Ev.ifn (by omega) (Ev.bind (rTrim_to (m := 1000000) ⟨hw, by omega⟩ (by omega) ?_) (Ev.now _))
   rw [V_take_all a (by omega), V_take_ge sb.1 (by omega)] at hv
   have hlt := V_lt hw
   rw [ho] at hlt
   rcases Nat.eq_zero_or_pos c with h0 | h0
   ·rw [h0, Nat.mul_zero] at hv; omega
   ·have := Nat.mul_le_mul_left (4294967296 ^ i) h0
    generalize 4294967296 ^ i = q at *
    omega
  | succ d ih =>
   intro i out c hi ho hw hc hv
   refine Ev.succ ?_
   simp only [steelyardref01_Sub.l0, rat_spec sa.1, rat_spec sb.1, Option.bind_some]
   have g1 := W_get sa.1 i
   have g2 := W_get sb.1 i
   obtain ⟨x, hx⟩ := Int.eq_ofNat_of_zero_le g1.1
   obtain ⟨y, hy⟩ := Int.eq_ofNat_of_zero_le g2.1
   rw [hx, hy, wu64 (x := (y : Int) + (c : Int)) (by omega) (by omega), wu64 (x := (x : Int) + 4294967296) (by omega) (by omega), w64_succ (by omega)]
   refine Ev.ifp (by omega) ?_
   have st : ∀ (z c' : Nat), z < 4294967296 → c' ≤ 1 → z + y + c = x + 4294967296 * c' → V (out ++ [((z : Nat) : Int)]) + V (b.take (i + 1)) = V (a.take (i + 1)) + 4294967296 ^ (i + 1) * c' := by
    intro z c' hz hc' he
    rw [V_snoc, V_take_succ, V_take_succ, ho, hx, hy, Int.toNat_natCast, Int.toNat_natCast, Int.toNat_natCast, Nat.pow_succ]
    generalize 4294967296 ^ i = q at *
    have e3 := congrArg (q * ·) he
    simp only [Nat.mul_add] at e3
    rw [Nat.mul_assoc q 4294967296]
    omega
   by_cases hb : x < y + c
   ·refine Ev.ifp (by omega) (Ev.ifp (by omega) ?_)
    rw [wu64 (by omega) (by omega), show ((x : Int) + 4294967296 - ((y : Int) + (c : Int))) % 4294967296 = ((x + 4294967296 - (y + c) : Nat) : Int) by omega]
    exact ih (i + 1) _ 1 (by omega) (by rw [List.length_append, ho]; rfl) (W_snoc hw (by omega) (by omega)) (by omega) (st _ 1 (by omega) (by omega) (by omega))
   ·refine Ev.ifn (by omega) (Ev.ifp (by omega) ?_)
    rw [wu64 (by omega) (by omega), show ((x : Int) - ((y : Int) + (c : Int))) % 4294967296 = ((x - (y + c) : Nat) : Int) by omega]
    exact ih (i + 1) _ 0 (by omega) (by rw [List.length_append, ho]; rfl) (W_snoc hw (by omega) (by omega)) (by omega) (st _ 0 (by omega) (by omega) (by omega))
 unfold steelyardref01_Sub.f
 exact key a.length 0 [] 0 (by omega) rfl W_nil (by omega) (by simp [V])
theorem rBit_to (sa : S m a) (h : V a = n) (i : Nat) (hi : i < 9223372036854775808) : steelyardref01_Bit.f a (i : Int) = some (n.testBit i) := by
 unfold steelyardref01_Bit.f
 rw [if_pos (by omega), show Int.tdiv (i : Int) 32 = ((i / 32 : Nat) : Int) by rw [Int.tdiv_eq_ediv_of_nonneg (by omega)]; omega, show Int.tmod (i : Int) 32 = ((i % 32 : Nat) : Int) by rw [Int.tmod_eq_emod_of_nonneg (by omega)]; omega,
  w64 (by omega) (by omega), wu64 (by omega) (by omega), rat_spec sa.1, ← h, testBit_V sa.1]
 simp only [Option.bind_some]
 rw [if_pos (by omega)]
 have g := W_get sa.1 (i / 32)
 obtain ⟨t, ht⟩ := Int.eq_ofNat_of_zero_le g.1
 rw [ht] at g ⊢
 congr 1
 have e3 : shr .u64 ((t : Nat) : Int) ((i % 32 : Nat) : Int) = ((t / 2 ^ (i % 32) : Nat) : Int) := by
  unfold shr
  rw [Int.toNat_natCast, Nat.min_eq_left (by show i % 32 ≤ 64; omega)]
  rw [Int.natCast_ediv, Int.natCast_pow]
  rfl
 rw [e3, show (1 : Int) = ((1 : Nat) : Int) from rfl, u64_and_nat _ _ (Nat.lt_of_le_of_lt (Nat.div_le_self _ _) (by omega)) (by decide), Nat.and_one_is_mod, Int.toNat_natCast]
 generalize t / 2 ^ (i % 32) % 2 = q
 by_cases hq : q = 1
 ·subst hq; rfl
 ·rw [decide_eq_false hq, beq_eq_false_iff_ne]
  omega
theorem rBits_to (sa : S m a) (hm : m ≤ 1000000) (h : V a = n) : Ev (fun k => steelyardref01_Bits.f k a) ((bl n : Nat) : Int) := by
 subst h
 have hla := sa.2
 have hb : bl (V a) ≤ 32 * a.length := bl_S (m := a.length) ⟨sa.1, Nat.le_refl _⟩
 have key : ∀ d i : Nat, i = bl (V a) + d → i ≤ 32 * a.length → Ev (fun k => steelyardref01_Bits.l0 k a (i : Int)) ((bl (V a) : Nat) : Int) := by
  intro d
  induction d with
  | zero =>
   intro i hi hil
   obtain rfl : i = bl (V a) := by omega
   refine Ev.succ ?_
   simp only [steelyardref01_Bits.l0]
   by_cases h0 : V a = 0
   ·rw [h0, bl_zero]
    exact Ev.ifn (by omega) (Ev.now _)
   ·have hp := bl_pos h0
    have ht : (V a).testBit (bl (V a) - 1) = true := by
     have h1 := bl_le h0
     have h2 := bl_lt (V a)
     rw [show bl (V a) = bl (V a) - 1 + 1 by omega, Nat.pow_succ] at h2
     rw [Nat.testBit_eq_decide_div_mod_eq, Nat.div_eq_of_lt_le (m := V a) (k := 1) (by omega) (by omega)]
     rfl
    rw [w64_pred hp (by omega), rBit_to sa rfl _ (by omega), ht]
    simp only [Option.bind_some]
    exact Ev.ifp (by omega) (Ev.ifp trivial (Ev.now _))
  | succ d ih =>
   intro i hi hil
   refine Ev.succ ?_
   simp only [steelyardref01_Bits.l0]
   rw [w64_pred (by omega) (by omega), rBit_to sa rfl _ (by omega), Nat.testBit_lt_two_pow (bl_le_iff.1 (by omega))]
   simp only [Option.bind_some]
   exact Ev.ifp (by omega) (Ev.ifn (by decide) (ih (i - 1) (by omega) (by omega)))
 unfold steelyardref01_Bits.f
 rw [show (32 : Int) * (a.length : Int) = ((32 * a.length : Nat) : Int) by omega, w64 (by omega) (by omega)]
 exact key (32 * a.length - bl (V a)) (32 * a.length) (by omega) (Nat.le_refl _)
end
end Go.Proofs.YtpchdjdochkjpaaGreatDoor.Lib
set_option linter.unusedVariables false
set_option linter.unusedSimpArgs false
namespace Go.Proofs.YtpchdjdochkjpaaGreatDoor.Lib
open Go.RowKit Go.Proofs.YtpchdjdochkjpaaGreatDoorW.PrintWords Go.Proofs.YtpchdjdochkjpaaGreatDoorW.PrintMore Go.Proofs.YtpchdjdochkjpaaGreatDoor.P
section
variable {m p n x y : Nat} {l a b : List Int}
theorem Mul_to (sa : S m a) (sb : S p b) (hm : m + p ≤ 1000000) (h : V a * V b = n) : Ev (fun k => mul_Of.f k a b) (L n) := by
 have h1 := sa.2
 have h2 := sb.2
 exact h ▸ MulOf_spec sa.1 sb.1 (by omega)
theorem Small_to (sa : S m a) (hm : m < 1000000) {v : Int} (h0 : 0 ≤ v) (h1 : v < 4294967296) (h : V a * v.toNat = n) : Ev (fun k => mul_Small.f k a v) (L n) := h ▸ MulSmall_spec sa.1 (Nat.lt_of_le_of_lt sa.2 hm) h0 h1
theorem Shift_to (sa : S m a) (hm : m ≤ 900000) {v : Int} (h0 : -9223372036854775808 ≤ v) (h1 : v < 9223372036854775808) (h : shf (V a) v = n) : Ev (fun k => mul_Shift.f k a v) (L n) := h ▸ Shift_spec sa.1 (Nat.le_trans sa.2 hm) h0 h1
theorem shf_up (x k : Nat) (hk : k ≤ 8192) : shf x (k : Int) = x * 2 ^ k := by
 unfold shf
 rw [if_pos (by omega), Int.toNat_natCast, Nat.min_eq_left hk]
theorem shf_down (x k : Nat) (hk : k ≤ 8192) (h0 : 0 < k) : shf x (-(k : Int)) = x / 2 ^ k := by
 unfold shf
 rw [if_neg (by omega), if_neg (by omega), show (-(-(k : Int))).toNat = k by omega]
theorem shf_down' (x k : Nat) (hk : k ≤ 8192) : shf x (-(k : Int)) = x / 2 ^ k := by
 rcases Nat.eq_zero_or_pos k with h | h
 ·subst h
  have := shf_up x 0 (by omega)
  rw [Nat.pow_zero, Nat.mul_one] at this
  rw [Nat.pow_zero, Nat.div_one]
  exact this
 ·exact shf_down x k hk h
theorem Pow_to (sa : S m a) (hm : m ≤ 300000) {v : Int} (h1 : v < 9223372036854775808) (h0 : 0 ≤ v) (h : V a ^ v.toNat = n) (hb : n < Bp 256) : Ev (fun k => mul_Pow.f k a v) (L n, true) := by
 have := Pow_spec sa.1 (Nat.le_trans sa.2 hm) (n := v) (by omega) h1
 rw [if_neg (by omega)] at this
 unfold powR at this
 rw [h, if_pos (show n < 4294967296 ^ 256 from hb)] at this
 exact this
theorem Pow_no (sa : S m a) (hm : m ≤ 300000) {v : Int} (h1 : v < 9223372036854775808) (h0 : -9223372036854775808 ≤ v) (h : v < 0 ∨ ¬ V a ^ v.toNat < Bp 256) : Ev (fun k => mul_Pow.f k a v) ([], false) := by
 have := Pow_spec sa.1 (Nat.le_trans sa.2 hm) (n := v) h0 h1
 by_cases c : v < 0
 ·rw [if_pos c] at this; exact this
 ·rw [if_neg c] at this
  unfold powR at this
  rw [if_neg (show ¬ V a ^ v.toNat < 4294967296 ^ 256 from h.resolve_left c)] at this
  exact this
theorem S_V (n : Nat) (h : n < Bp m) : S m (L n) := S_L h
end
theorem one_lt_Bp {m : Nat} (h : 1 ≤ m) : 1 < Bp m := lt_up (m := 1) (by rw [show Bp 1 = 4294967296 from rfl]; omega) h
end Go.Proofs.YtpchdjdochkjpaaGreatDoor.Lib
set_option linter.unusedVariables false
set_option linter.unusedSimpArgs false
namespace Go.Proofs.YtpchdjdochkjpaaGreatDoor.Lib
open Go.RowKit Go.Proofs.YtpchdjdochkjpaaGreatDoorW.PrintWords Go.Proofs.YtpchdjdochkjpaaGreatDoorW.PrintMore Go.Proofs.YtpchdjdochkjpaaGreatDoor.P
section
variable {m p n x y : Nat} {l a b : List Int}
theorem rSmall_to (sa : S m a) (hm : m < 1000000) {v : Int} (h0 : 0 ≤ v) (h1 : v < 4294967296) (h : V a * v.toNat = n) : Ev (fun k => steelyardref02_Small.f k a v) (L n) := by
 have hla := sa.2
 obtain ⟨v, rfl⟩ := Int.eq_ofNat_of_zero_le h0
 rw [Int.toNat_natCast] at h
 have key : ∀ d i (out : List Int) (c : Nat), a.length = i + d → out.length = i → W out → c < 4294967296 → V out + 4294967296 ^ i * c = V (a.take i) * v →
   Ev (fun k => steelyardref02_Small.l0 k a (v : Int) out (c : Int) (i : Int)) (L n) := by
  intro d
  induction d with
  | zero =>
   intro i out c hi ho hw hc hv
   refine Ev.succ ?_
   simp only [steelyardref02_Small.l0]
   rw [show (c : Int) % 4294967296 = ((c : Nat) : Int) by omega]
   refine Ev.ifn (by omega) (Ev.ifp (by omega) (Ev.bind (rTrim_to (m := 1000000) ⟨W_snoc hw (by omega) (by omega), by simp; omega⟩ (by omega) ?_) (Ev.now _)))
   rw [V_snoc, ho, Int.toNat_natCast, hv, V_take_all a (by omega), h]
  | succ d ih =>
   intro i out c hi ho hw hc hv
   refine Ev.succ ?_
   simp only [steelyardref02_Small.l0, rd_nat]
   have g1 := W_get sa.1 i
   obtain ⟨x, hx⟩ := Int.eq_ofNat_of_zero_le g1.1
   have hp : x * v ≤ 4294967295 * 4294967295 := Nat.mul_le_mul (by omega) (by omega)
   rw [hx, wu64 (x := (x : Int)) (by omega) (by omega), wu64 (x := (v : Int)) (by omega) (by omega), ← Int.natCast_mul, wu64 (x := ((x * v : Nat) : Int)) (by omega) (by omega), ← Int.natCast_add, wu64 (x := ((c + x * v : Nat) : Int)) (by omega) (by omega), w64_succ (by omega),
    show ((c + x * v : Nat) : Int) / 4294967296 = (((c + x * v) / 4294967296 : Nat) : Int) by omega, show ((c + x * v : Nat) : Int) % 4294967296 = (((c + x * v) % 4294967296 : Nat) : Int) by omega]
   refine Ev.ifp (by omega) (Ev.ifp (by omega) (Ev.ifp (by omega) ?_))
   refine ih (i + 1) _ _ (by omega) (by rw [List.length_append, ho]; rfl) (W_snoc hw (by omega) (by omega)) (by omega) ?_
   rw [V_snoc, V_take_succ, ho, hx, Int.toNat_natCast, Int.toNat_natCast, Nat.pow_succ]
   generalize 4294967296 ^ i = q at *
   have e2 : 4294967296 * ((c + x * v) / 4294967296) + (c + x * v) % 4294967296 = c + x * v := Nat.div_add_mod _ _
   have e3 := congrArg (q * ·) e2
   simp only [Nat.mul_add] at e3
   rw [Nat.mul_assoc q 4294967296, Nat.add_mul, Nat.mul_assoc q x v]
   omega
 unfold steelyardref02_Small.f
 exact key a.length 0 [] 0 (by omega) rfl W_nil (by omega) (by simp [V])
theorem shl_u64 (x s : Nat) (hx : x < 4294967296) (hs : s < 32) : shl .u64 (x : Int) (s : Int) = ((x * 2 ^ s : Nat) : Int) := by
 have hp := pow_lt_32 hs
 have hb : x * 2 ^ s ≤ 4294967295 * 2147483648 := Nat.mul_le_mul (by omega) hp
 unfold shl
 rw [Int.toNat_natCast, Nat.min_eq_left (by show s ≤ 64; omega), show ((2 : Int) ^ s) = ((2 ^ s : Nat) : Int) by rw [Int.natCast_pow]; rfl, ← Int.natCast_mul]
 exact wu64 (by omega) (by omega)
theorem or_low (c h s : Nat) (hs : s < 32) (hc : c < 2 ^ s) (hh : h < 4294967296) : Go.bits .or .u64 (c : Int) ((h * 2 ^ s : Nat) : Int) = ((h * 2 ^ s + c : Nat) : Int) := by
 have hp := pow_lt_32 hs
 have hb : h * 2 ^ s ≤ 4294967295 * 2147483648 := Nat.mul_le_mul (by omega) hp
 have e := Nat.two_pow_add_eq_or_of_lt hc h
 generalize 2 ^ s = q at *
 rw [u64_or_nat _ _ (by omega) (by omega), Nat.or_comm, Nat.mul_comm h q, ← e]
theorem rUp_to (sa : S m a) (hm : m ≤ 400000) (q : Nat) (hq : q ≤ 16000000) (h : V a * 2 ^ q = n) : Ev (fun k => steelyardref02_Up.f k a (q : Int)) (L n) := by
 have hla := sa.2
 have hs : q % 32 < 32 := by omega
 have hsp := two_split q
 have key : ∀ d i (out : List Int) (c : Nat), a.length = i + d → out.length = q / 32 + i → W out → c < 2 ^ (q % 32) → V out + 4294967296 ^ (q / 32 + i) * c = 4294967296 ^ (q / 32) * (2 ^ (q % 32) * V (a.take i)) →
   Ev (fun k => steelyardref02_Up.l0 k a (q : Int) out (c : Int) (i : Int)) (L n) := by
  intro d
  induction d with
  | zero =>
   intro i out c hi ho hw hc hv
   have hp := pow_lt_32 hs
   have hc2 : c < 4294967296 := by generalize 2 ^ (q % 32) = r at *; omega
   refine Ev.succ ?_
   simp only [steelyardref02_Up.l0]
   rw [show (c : Int) % 4294967296 = ((c : Nat) : Int) by omega]
   refine Ev.ifn (by omega) (Ev.ifp (by omega) (Ev.bind (rTrim_to (m := 1000000) ⟨W_snoc hw (by omega) (by omega), by simp; omega⟩ (by omega) ?_) (Ev.now _)))
   rw [V_snoc, ho, Int.toNat_natCast, hv, V_take_all a (by omega), ← Nat.mul_assoc, hsp, Nat.mul_comm, h]
  | succ d ih =>
   intro i out c hi ho hw hc hv
   have hp := pow_lt_32 hs
   refine Ev.succ ?_
   simp only [steelyardref02_Up.l0, rd_nat]
   have g1 := W_get sa.1 i
   obtain ⟨x, hx⟩ := Int.eq_ofNat_of_zero_le g1.1
   have hxl : x < 4294967296 := by omega
   have hb : x * 2 ^ (q % 32) ≤ 4294967295 * 2 ^ (q % 32) := Nat.mul_le_mul_right _ (by omega)
   rw [hx, wu64 (x := (x : Int)) (by omega) (by omega), tmod32, wu64 (x := ((q % 32 : Nat) : Int)) (by omega) (by omega), shl_u64 x _ hxl hs, or_low c x _ hs hc hxl, w64_succ (by omega),
    show ((x * 2 ^ (q % 32) + c : Nat) : Int) / 4294967296 = (((x * 2 ^ (q % 32) + c) / 4294967296 : Nat) : Int) from (Int.natCast_ediv _ _).symm, show ((x * 2 ^ (q % 32) + c : Nat) : Int) % 4294967296 = (((x * 2 ^ (q % 32) + c) % 4294967296 : Nat) : Int) from (Int.natCast_emod _ _).symm]
   have hlt : (x * 2 ^ (q % 32) + c) % 4294967296 < 4294967296 := Nat.mod_lt _ (by omega)
   have hdv : (x * 2 ^ (q % 32) + c) / 4294967296 < 2 ^ (q % 32) := by
    generalize 2 ^ (q % 32) = r at *
    omega
   refine Ev.ifp (by omega) (Ev.ifp (by omega) (Ev.ifp (by omega) (Ev.ifp (by omega) ?_)))
   refine ih (i + 1) _ _ (by omega) (by rw [List.length_append, ho]; rfl) (W_snoc hw (Int.natCast_nonneg _) (by omega)) hdv ?_
   rw [V_snoc, V_take_succ, ho, hx, Int.toNat_natCast, Int.toNat_natCast, ← Nat.add_assoc, Nat.pow_succ]
   have e2 : 4294967296 * ((x * 2 ^ (q % 32) + c) / 4294967296) + (x * 2 ^ (q % 32) + c) % 4294967296 = x * 2 ^ (q % 32) + c := Nat.div_add_mod _ _
   have e3 := congrArg (4294967296 ^ (q / 32 + i) * ·) e2
   simp only [Nat.mul_add] at e3 ⊢
   rw [Nat.mul_assoc (4294967296 ^ (q / 32 + i)) 4294967296]
   have e4 : 4294967296 ^ (q / 32 + i) * (x * 2 ^ (q % 32)) = 4294967296 ^ (q / 32) * (2 ^ (q % 32) * (4294967296 ^ i * x)) := by
    rw [Nat.pow_add, Nat.mul_comm x, Nat.mul_assoc, Nat.mul_left_comm (4294967296 ^ i)]
   rw [← e4]
   omega
 unfold steelyardref02_Up.f
 rw [tdiv32, w64 (x := ((q / 32 : Nat) : Int)) (by omega) (by omega), ← Int.natCast_add, w64 (x := ((q / 32 + a.length : Nat) : Int)) (by omega) (by omega), w64_succ (by omega), Int.toNat_natCast, Int.toNat_natCast]
 refine Ev.ifp (by omega) (Ev.ifp (by omega) (Ev.ifp (by omega) ?_))
 exact key a.length 0 (List.replicate (q / 32) 0) 0 (by omega) (by rw [List.length_replicate]; rfl) (W_rep _) (Nat.two_pow_pos _) (by rw [V_rep]; simp [V])
theorem rDown_to (sa : S m a) (hm : m ≤ 1000000) (q : Nat) (hq : q < 4611686018427387904) (h : V a / 2 ^ q = n) : Ev (fun k => steelyardref02_Down.f k a (q : Int)) (L n) := by
 have hla := sa.2
 have hs : q % 32 < 32 := by omega
 have e0 : V (a.drop (q / 32)) / 2 ^ (q % 32) = n := by
  rw [← h, ← V_div a sa.1, pow32, Nat.div_div_eq_div_mul, ← Nat.pow_add, show 32 * (q / 32) + q % 32 = q by omega]
 have key : ∀ d i (out : List Int), a.length ≤ q / 32 + i + d → out.length = i → W out → i ≤ a.length → V out = V (a.drop (q / 32)) / 2 ^ (q % 32) % 4294967296 ^ i →
   Ev (fun k => steelyardref02_Down.l0 k a (q : Int) out ((q / 32 + i : Nat) : Int)) (L n) := by
  intro d
  induction d with
  | zero =>
   intro i out hi ho hw hil hv
   refine Ev.succ ?_
   simp only [steelyardref02_Down.l0]
   refine Ev.ifn (by omega) (Ev.bind (rTrim_to (m := 1000000) ⟨hw, by omega⟩ (by omega) ?_) (Ev.now _))
   rw [hv, ← e0]
   refine Nat.mod_eq_of_lt (Nat.lt_of_le_of_lt (Nat.div_le_self _ _) (G_V (W_drop sa.1 _) (by rw [List.length_drop]; omega)))
  | succ d ih =>
   intro i out hi ho hw hil hv
   by_cases hlt : q / 32 + i < a.length
   ·refine Ev.succ ?_
    simp only [steelyardref02_Down.l0, rd_nat, tmod32]
    rw [w64_succ (by omega), rd_nat, wu64 (x := ((q % 32 : Nat) : Int)) (by omega) (by omega)]
    have g1 := W_get sa.1 (q / 32 + i)
    have g2 := W_get sa.1 (q / 32 + i + 1)
    obtain ⟨x, hx⟩ := Int.eq_ofNat_of_zero_le g1.1
    obtain ⟨y, hy⟩ := Int.eq_ofNat_of_zero_le g2.1
    have fin : Ev (fun k => steelyardref02_Down.l0 k a (q : Int) (out ++ [(((y * 4294967296 + x) / 2 ^ (q % 32) % 4294967296 : Nat) : Int)]) ((q / 32 + i + 1 : Nat) : Int)) (L n) := by
     have hml : (y * 4294967296 + x) / 2 ^ (q % 32) % 4294967296 < 4294967296 := Nat.mod_lt _ (by omega)
     refine ih (i + 1) _ (by omega) (by rw [List.length_append, ho]; rfl) (W_snoc hw (Int.natCast_nonneg _) (by omega)) (by omega) ?_
     rw [V_snoc, ho, hv, Nat.mod_pow_succ, down_limb (W_drop sa.1 _) i _ hs, get_drop, get_drop, ← Nat.add_assoc, hx, hy, Int.toNat_natCast, Int.toNat_natCast, Int.toNat_natCast]
    rw [hx, hy, wu64 (x := (x : Int)) (by omega) (by omega), wu64 (x := (y : Int)) (by omega) (by omega), wu64 (x := (y : Int) * 4294967296) (by omega) (by omega)]
    refine Ev.ifp (by omega) (Ev.ifp (by omega) ?_)
    by_cases h2 : q / 32 + i + 1 < a.length
    ·refine Ev.ifp (by omega) (Ev.ifp (by omega) (Ev.ifp (by omega) (Ev.ifp (by omega) ?_)))
     have hor : Go.bits .or .u64 (x : Int) ((y : Int) * 4294967296) = ((y * 4294967296 + x : Nat) : Int) := by
      rw [← or_high y x (by omega) (by omega), show ((y : Int) * 4294967296) = ((y * 4294967296 : Nat) : Int) by omega, u64_or_nat _ _ (by omega) (by omega), u64_or_nat _ _ (by omega) (by omega), Nat.or_comm]
     rw [hor, shr_u64 _ _ hs, show (4294967296 : Int) = ((4294967296 : Nat) : Int) from rfl, ← Int.natCast_emod]
     exact fin
    ·refine Ev.ifn (by omega) (Ev.ifp (by omega) (Ev.ifp (by omega) ?_))
     have hy0 : y = 0 := by
      rw [List.getD_eq_getElem?_getD, List.getElem?_eq_none (by omega)] at hy
      simp at hy
      omega
     rw [hy0, Nat.zero_mul, Nat.zero_add] at fin
     rw [shr_u64 _ _ hs, show (4294967296 : Int) = ((4294967296 : Nat) : Int) from rfl, ← Int.natCast_emod]
     exact fin
   ·refine Ev.succ ?_
    simp only [steelyardref02_Down.l0]
    refine Ev.ifn (by omega) (Ev.bind (rTrim_to (m := 1000000) ⟨hw, by omega⟩ (by omega) ?_) (Ev.now _))
    rw [hv, ← e0]
    refine Nat.mod_eq_of_lt (Nat.lt_of_le_of_lt (Nat.div_le_self _ _) (G_V (W_drop sa.1 _) (by rw [List.length_drop]; omega)))
 unfold steelyardref02_Down.f
 rw [tdiv32, w64 (by omega) (by omega)]
 exact key a.length 0 [] (by omega) rfl W_nil (by omega) (by rw [V_nil, Nat.pow_zero, Nat.mod_one])
theorem rMul_to (sa : S m a) (sb : S p b) (hm : m + p < 300000) (h : V a * V b = n) : Ev (fun k => steelyardref02_Of.f k a b) (L n) := by
 have hla := sa.2
 have hlb := sb.2
 have bd : ∀ i, V a * V (b.take i) < Bp (m + p) := fun i => lt_mul sa.v (G_V (W_take sb.1 i) (by rw [List.length_take]; omega)) (Nat.le_refl _)
 have key : ∀ d i : Nat, b.length = i + d → Ev (fun k => steelyardref02_Of.l0 k a b (L (V a * V (b.take i))) (i : Int)) (L n) := by
  intro d
  induction d with
  | zero =>
   intro i hi
   refine Ev.succ ?_
   simp only [steelyardref02_Of.l0]
   refine Ev.ifn (by omega) (Ev.bind (rTrim_to (S_L (bd i)) (by omega) (V_L _)) ?_)
   rw [V_take_all b (by omega), h]
   exact Ev.now _
  | succ d ih =>
   intro i hi
   refine Ev.succ ?_
   simp only [steelyardref02_Of.l0, rd_nat]
   have g1 := W_get sb.1 i
   obtain ⟨x, hx⟩ := Int.eq_ofNat_of_zero_le g1.1
   rw [hx, show (32 : Int) * (i : Int) = ((32 * i : Nat) : Int) by omega, w64 (x := ((32 * i : Nat) : Int)) (by omega) (by omega), w64_succ (by omega)]
   have hx1 : x < Bp 1 := by rw [show Bp 1 = 4294967296 from rfl]; omega
   have e1 : V a * V (b.take (i + 1)) = V a * V (b.take i) + V a * x * 2 ^ (32 * i) := by
    rw [V_take_succ, hx, Int.toNat_natCast, Nat.mul_add, ← pow32, Nat.mul_comm (4294967296 ^ i) x, Nat.mul_assoc]
   have b2 : V a * x * 2 ^ (32 * i) < Bp (m + p) := lt_le (bd (i + 1)) (by rw [e1]; omega)
   refine Ev.ifp (by omega) (Ev.ifp (by omega) ?_)
   refine Ev.bind (rSmall_to sa (by omega) (by omega) (by omega) (n := V a * x) (by rw [Int.toNat_natCast])) ?_
   refine Ev.bind (rUp_to (S_L (lt_mul sa.v hx1 (Nat.le_refl _))) (by omega) (32 * i) (by omega) (n := V a * x * 2 ^ (32 * i)) (by rw [V_L])) ?_
   refine Ev.bind (rAdd_to (S_L (bd i)) (S_L b2) (by omega) (n := V a * V (b.take (i + 1))) (by rw [V_L, V_L, e1])) ?_
   exact ih (i + 1) (by omega)
 unfold steelyardref02_Of.f
 have := key b.length 0 (by omega)
 rw [List.take_zero, V_nil, Nat.mul_zero, L_zero] at this
 exact this
end
end Go.Proofs.YtpchdjdochkjpaaGreatDoor.Lib
set_option linter.unusedVariables false
set_option linter.unusedSimpArgs false
namespace Go.Proofs.YtpchdjdochkjpaaGreatDoor.Lib
open Go.RowKit Go.Proofs.YtpchdjdochkjpaaGreatDoorW.PrintWords Go.Proofs.YtpchdjdochkjpaaGreatDoorW.PrintMore Go.Proofs.YtpchdjdochkjpaaGreatDoor.P
theorem V_drop_set (l : List Int) (i : Nat) (x : Int) (h : i < l.length) : V ((l.set i x).drop i) = x.toNat + 4294967296 * V (l.drop (i + 1)) := by
 rw [V_drop_cons _ (by simpa using h), List.drop_set_of_lt (by omega), List.getD_eq_getElem?_getD, List.getElem?_set_self (by simpa using h)]
 rfl
theorem div_step (D x v : Nat) (hv : 0 < v) : (x + 4294967296 * D) / v = (D % v * 4294967296 + x) / v + 4294967296 * (D / v) ∧ (x + 4294967296 * D) % v = (D % v * 4294967296 + x) % v := by
 have e : x + 4294967296 * D = (D % v * 4294967296 + x) + v * (4294967296 * (D / v)) := by
  have h := Nat.div_add_mod D v
  rw [Nat.mul_left_comm]
  omega
 rw [e, Nat.add_mul_div_left _ _ hv, Nat.add_mul_mod_self_left]
 exact ⟨rfl, rfl⟩
section
variable {m p n x y : Nat} {l a b : List Int}
end
theorem quot_le {R D P x y z r0 d0 : Nat} (hz : 0 < z) (h1 : R = r0 + P * (y + 4294967296 * x)) (h2 : D = d0 + P * z) (h3 : r0 < P) : R / D ≤ (x * 4294967296 + y) / z := by
 rw [Nat.le_div_iff_mul_le hz]
 have h4 : R / D * D ≤ R := Nat.div_mul_le_self _ _
 generalize R / D = Q at *
 have h5 : Q * (P * z) ≤ Q * D := Nat.mul_le_mul_left _ (by omega)
 have h6 : P * (Q * z) < P * (y + 4294967296 * x + 1) := by
  rw [Nat.mul_left_comm] at h5
  rw [Nat.mul_add _ (y + 4294967296 * x), Nat.mul_one]
  omega
 have h7 := Nat.lt_of_mul_lt_mul_left h6
 omega
theorem guess_val {row b : List Int} {m x y z : Nat} (hlb : b.length = m + 1) (hl : row.length = m + 2) (hm : m ≤ 1000000) (hx : row.getD (m + 1) 0 = (x : Int)) (hy : row.getD m 0 = (y : Int)) (hz : b.getD m 0 = (z : Int))
  (x1 : x < 4294967296) (y1 : y < 4294967296) (z1 : z < 4294967296) (z0 : 0 < z) : quo_guess.f row b = some ((min ((x * 4294967296 + y) / z) 4294967295 : Nat) : Int) := by
 have ht : (x * 4294967296 + y) / z ≤ x * 4294967296 + y := Nat.div_le_self _ _
 unfold quo_guess.f
 rw [hlb, show (((m + 1 : Nat) : Int) - 1) = (m : Int) by omega, w64 (x := (m : Int)) (by omega) (by omega), rd_nat, rd_nat, rd_nat, hx, hy, hz, hl, wu64 (x := (x : Int)) (by omega) (by omega), wu64 (x := (y : Int)) (by omega) (by omega), wu64 (x := (z : Int)) (by omega) (by omega),
  wu64 (x := (x : Int) * 4294967296) (by omega) (by omega), or_high x y (by omega) (by omega), Int.tdiv_eq_ediv_of_nonneg (by omega), ← Int.natCast_ediv]
 generalize (x * 4294967296 + y) / z = t at *
 rw [if_pos (by omega), if_pos (by omega), if_pos (by omega), if_pos (by omega), if_pos (by omega), if_neg (by omega), wu64 (x := (t : Int)) (by omega) (by omega), show mn (t : Int) 4294967295 = ((min t 4294967295 : Nat) : Int) from mn_nat t 4294967295, Int.emod_eq_of_lt (by omega) (by omega)]
theorem guess_spec {row b : List Int} (hr : W row) (hb : W b) {m : Nat} (hlb : b.length = m + 1) (hl : row.length = m + 2) (hm : m ≤ 1000000) (hlast : b.getD m 0 ≠ 0) (hlt : V row < V b * 4294967296) :
  ∃ q : Nat, quo_guess.f row b = some (q : Int) ∧ q < 4294967296 ∧ V row / V b ≤ q := by
 have gx := W_get hr (m + 1)
 have gy := W_get hr m
 have gz := W_get hb m
 obtain ⟨x, hx⟩ := Int.eq_ofNat_of_zero_le gx.1
 obtain ⟨y, hy⟩ := Int.eq_ofNat_of_zero_le gy.1
 obtain ⟨z, hz⟩ := Int.eq_ofNat_of_zero_le gz.1
 have hz0 : 0 < z := by omega
 have h1 := V_take_add row m
 rw [Nat.min_eq_left (by omega), V_drop_cons row (i := m) (by omega), V_drop_cons row (i := m + 1) (by omega), List.drop_of_length_le (by omega), V_nil, hx, hy, Int.toNat_natCast, Int.toNat_natCast, Nat.mul_zero, Nat.add_zero] at h1
 have h2 := V_take_add b m
 rw [Nat.min_eq_left (by omega), V_drop_cons b (i := m) (by omega), List.drop_of_length_le (by omega), V_nil, hz, Int.toNat_natCast, Nat.mul_zero, Nat.add_zero] at h2
 have hQ2 := quot_le hz0 h1 h2 (V_take_lt hr m)
 have hQ : V row / V b < 4294967296 := Nat.div_lt_of_lt_mul hlt
 refine ⟨_, guess_val hlb hl hm hx hy hz (by omega) (by omega) (by omega) hz0, ?_, ?_⟩
 ·generalize (x * 4294967296 + y) / z = t at *
  omega
 ·generalize (x * 4294967296 + y) / z = t at *
  generalize V row / V b = q at *
  omega
theorem less_spec {row b : List Int} {M Q R : Nat} (hM : M < 1000000) (sr : S M row) (sb : S M b) (hb : V b ≠ 0) (hQ : V row / V b = Q) (hR : V row % V b = R) : ∀ d q : Nat, q = Q + d → q < 4294967296 →
  Ev (fun k => quo_less.l0 k row b (q : Int)) (L R, (Q : Int)) := by
 have hlt : ∀ q, q < 4294967296 → V b * q < Bp (M + 1) := fun q hq => lt_mul sb.v (show q < Bp 1 from by rw [show Bp 1 = 4294967296 from rfl]; exact hq) (Nat.le_refl _)
 intro d
 induction d with
 | zero =>
  intro q hq h
  rw [Nat.add_zero] at hq
  subst hq
  refine Ev.succ ?_
  simp only [quo_less.l0]
  refine Ev.bind (Small_to sb hM (by omega) (by omega) rfl) (Ev.bind (Sub_to (m := M + 1) (sr.up (by omega)) (S_L (by rw [Int.toNat_natCast]; exact hlt q h)) (by omega) (n := R) ?_) (Ev.ifp rfl (Ev.now _)))
  rw [V_L, Int.toNat_natCast, ← hQ, ← hR]
  exact (Nat.div_add_mod _ _).symm
 | succ d ih =>
  intro q hq h
  refine Ev.succ ?_
  simp only [quo_less.l0]
  refine Ev.bind (Small_to sb hM (by omega) (by omega) rfl) (Ev.bind (Sub_no (m := M + 1) (sr.up (by omega)) (S_L (by rw [Int.toNat_natCast]; exact hlt q h)) (by omega) ?_) (Ev.ifn (by decide) ?_))
  ·rw [V_L, Int.toNat_natCast, hq]
   have h1 := Nat.lt_mul_div_succ (V row) (show 0 < V b by omega)
   rw [hQ] at h1
   exact Nat.lt_of_lt_of_le h1 (Nat.mul_le_mul_left (V b) (by omega))
  ·have := ih (q - 1) (by omega) (by omega)
   rw [show (((q - 1 : Nat) : Int)) = ((q : Int) - 1) % 4294967296 by omega] at this
   exact this
theorem row_eq (n : Nat) (left : List Int) (h : left.length ≤ n) (x : Int) : (cpy (List.replicate (n + 1) 0) 1 left).set 0 x = x :: (left ++ List.replicate (n - left.length) 0) := by
 simp [cpy, List.take_of_length_le h, List.replicate_succ, Nat.add_comm 1 left.length]
theorem Rem_loop {a b : List Int} (ha : W a) (hb : W b) (hla : a.length ≤ 900000) (hlb : b.length ≤ 900000) {m : Nat} (hbm : b.length = m + 1) (hlast : b.getD m 0 ≠ 0) (hb0 : V b ≠ 0) (s : Nat) (hs : s < 32) :
  ∀ j (q left : List Int), j ≤ a.length → q.length = a.length → W q → V (q.drop j) = V (a.drop j) / V b → left = L (V (a.drop j) % V b) →
  Ev (fun k => quo_Rem.l0 k a b q (s : Int) left ((j : Int) - 1)) (L (V a / V b), L (V a % V b / 2 ^ s), true) := by
 intro j
 induction j with
 | zero =>
  intro q left hj ho hw hV hr
  rw [List.drop_zero, List.drop_zero] at hV
  rw [List.drop_zero] at hr
  have hlt : V a % V b < Bp b.length := Nat.lt_of_lt_of_le (Nat.mod_lt _ (by omega)) (Nat.le_of_lt (V_lt hb))
  refine Ev.succ ?_
  simp only [quo_Rem.l0]
  rw [w64 (x := -(s : Int)) (by omega) (by omega), hr]
  refine Ev.ifn (by omega) (Ev.bind (Trim_to (m := 1000000) ⟨hw, by omega⟩ (by omega) hV) (Ev.bind (Shift_to (S_L hlt) (by omega) (by omega) (by omega) (by rw [V_L]; exact shf_down' _ _ (by omega))) (Ev.now _)))
 | succ j ih =>
  intro q left hj ho hw hV hr
  have hlt : V (a.drop (j + 1)) % V b < V b := Nat.mod_lt _ (by omega)
  have hll : left.length ≤ b.length := by rw [hr]; exact L_len_le (Nat.lt_trans hlt (V_lt hb))
  have hvl : V left = V (a.drop (j + 1)) % V b := by rw [hr, V_L]
  have hwl : W left := by rw [hr]; exact W_L _
  refine Ev.succ ?_
  simp only [quo_Rem.l0]
  have g1 := W_get ha j
  obtain ⟨x, hx⟩ := Int.eq_ofNat_of_zero_le g1.1
  have hxl : x < 4294967296 := by omega
  rw [w64_succ (i := b.length) (by omega), Int.toNat_natCast, show (((j + 1 : Nat) : Int) - 1) = (j : Int) by omega, rd_nat, hx, Int.toNat_natCast, w64 (x := (j : Int) - 1) (by omega) (by omega), show ((0 : Int)).toNat = 0 from rfl]
  simp only [Option.bind_some]
  rw [row_eq b.length left hll]
  have hwr : W ((x : Int) :: (left ++ List.replicate (b.length - left.length) 0)) := by
   rw [W_cons, W_app]
   exact ⟨⟨by omega, by omega⟩, hwl, W_rep _⟩
  have hlr : ((x : Int) :: (left ++ List.replicate (b.length - left.length) 0)).length = m + 2 := by
   rw [List.length_cons, List.length_append, List.length_replicate]; omega
  have hvr : V ((x : Int) :: (left ++ List.replicate (b.length - left.length) 0)) = V (a.drop (j + 1)) % V b * 4294967296 + x := by
   rw [V_cons, V_app, V_rep, hvl, Int.toNat_natCast]; omega
  generalize ((x : Int) :: (left ++ List.replicate (b.length - left.length) 0)) = row at *
  have hrl : V row < V b * 4294967296 := by rw [hvr]; omega
  obtain ⟨g, hg, hg1, hg2⟩ := guess_spec hwr hb hbm hlr (by omega) hlast hrl
  have ds := div_step (V (a.drop (j + 1))) x (V b) (by omega)
  rw [← hvr] at ds
  have hQ : V row / V b < 4294967296 := Nat.div_lt_of_lt_mul hrl
  obtain ⟨Q, eQ⟩ : ∃ Q, V row / V b = Q := ⟨_, rfl⟩
  obtain ⟨R, eR⟩ : ∃ R, V row % V b = R := ⟨_, rfl⟩
  rw [eQ] at hQ hg2
  rw [eQ, eR] at ds
  rw [hg]
  simp only [Option.bind_some]
  refine Ev.ifp (by omega) (Ev.ifp (by omega) (Ev.ifp (by omega) (Ev.ifp (by rw [List.length_replicate]; omega) (Ev.ifp (by omega) (Ev.ifp (by omega) (Ev.ifp (by rw [List.length_replicate]; omega) ?_))))))
  unfold quo_less.f
  refine Ev.bind (less_spec (M := m + 2) (by omega) ⟨hwr, by omega⟩ ⟨hb, by omega⟩ hb0 eQ eR (g - Q) g (by omega) hg1) (Ev.ifp (by omega) ?_)
  refine ih _ _ (by omega) (by rw [List.length_set]; exact ho) (W_set hw j (by omega) (by omega)) ?_ ?_
  ·rw [V_drop_set _ _ _ (by omega), hV, V_drop_cons a (i := j) (by omega), hx, Int.toNat_natCast, Int.toNat_natCast, ds.1]
  ·rw [V_drop_cons a (i := j) (by omega), hx, Int.toNat_natCast, ds.2]
section
variable {m p n x y q r : Nat} {l a b : List Int}
theorem Rem_to (sa : S m a) (sb : S p b) (hm : m ≤ 800000) (hp : p ≤ 800000) (h0 : V b ≠ 0) (hq : V a / V b = q) (hr : V a % V b = r) : Ev (fun k => quo_Rem.f k a b) (L q, L r, true) := by
 have sL : S p (L (V b)) := S_L sb.v
 have hl := sL.2
 have hpos : (L (V b)).length ≠ 0 := fun e => h0 (L_len_zero.1 e)
 have hlast := L_last h0
 unfold quo_Rem.f
 refine Ev.bind (Trim_to sb (by omega) rfl) ?_
 have g1 := W_get sL.1 ((L (V b)).length - 1)
 obtain ⟨z, hz⟩ := Int.eq_ofNat_of_zero_le g1.1
 have hz0 : z ≠ 0 := by omega
 have hz1 : z < 4294967296 := by omega
 have hbz := bl_pos hz0
 have hbz2 : bl z ≤ 32 := bl_le_iff.2 hz1
 obtain ⟨s, hs⟩ : ∃ s, 32 - bl z = s := ⟨_, rfl⟩
 have hlz : bits_LeadingZeros32.f (z : Int) = some (s : Int) := by
  unfold bits_LeadingZeros32.f
  rw [Len32_spec hz1]
  simp only [Option.bind_some]
  rw [w64 (by omega) (by omega)]
  exact congrArg some (by omega)
 have hp2 : 2 ^ s < Bp 1 := two_lt (by omega)
 have la : V a * 2 ^ s < Bp (m + 1) := lt_mul sa.v hp2 (Nat.le_refl _)
 have lb : V b * 2 ^ s < Bp (p + 1) := lt_mul sb.v hp2 (Nat.le_refl _)
 have hb0 : V b * 2 ^ s ≠ 0 := Nat.mul_ne_zero h0 (Nat.pos_iff_ne_zero.1 (Nat.two_pow_pos s))
 have sA : S (m + 1) (L (V a * 2 ^ s)) := S_L la
 have sB : S (p + 1) (L (V b * 2 ^ s)) := S_L lb
 have hlA := sA.2
 have hlB := sB.2
 have hpB : (L (V b * 2 ^ s)).length ≠ 0 := fun e => hb0 (L_len_zero.1 e)
 rw [w64_pred (by omega) (by omega), rd_nat, hz, hlz]
 simp only [Option.bind_some]
 refine Ev.ifn (by omega) (Ev.ifp (by omega) (Ev.ifp (by omega) ?_))
 refine Ev.bind (Shift_to sa (by omega) (by omega) (by omega) (shf_up _ _ (by omega))) ?_
 refine Ev.bind (Shift_to sL (by omega) (by omega) (by omega) (n := V b * 2 ^ s) (by rw [V_L]; exact shf_up _ _ (by omega))) ?_
 rw [Int.toNat_natCast, w64 (by omega) (by omega)]
 refine Ev.ifp (by omega) (Ev.ifp (by omega) ?_)
 have := Rem_loop sA.1 sB.1 (by omega) (by omega) (m := (L (V b * 2 ^ s)).length - 1) (by omega) (L_last hb0) (by rw [V_L]; exact hb0) s (by omega) (L (V a * 2 ^ s)).length (List.replicate (L (V a * 2 ^ s)).length 0) [] (by omega) (by rw [List.length_replicate]) (W_rep _)
  (by rw [List.drop_length, V_nil, Nat.zero_div, List.drop_replicate, V_rep]) (by rw [List.drop_length, V_nil, Nat.zero_mod, L_zero])
 rw [V_L, V_L, Nat.mul_div_mul_right _ _ (Nat.two_pow_pos s), Nat.mul_mod_mul_right, Nat.mul_div_cancel _ (Nat.two_pow_pos s), hq, hr] at this
 exact this
theorem Gcd_to (sa : S m a) (sb : S m b) (hm : m ≤ 800000) (h : Nat.gcd (V a) (V b) = n) : Ev (fun k => quo_Gcd.f k a b) (L n) := by
 have key : ∀ y x, x < Bp m → y < Bp m → Ev (fun k => quo_Gcd.l0 k (L x) (L y)) (L (Nat.gcd x y)) := by
  intro y
  induction y using Nat.strongRecOn with
  | ind y ih =>
   intro x hx hy
   refine Ev.succ ?_
   simp only [quo_Gcd.l0]
   by_cases h0 : y = 0
   ·subst h0
    rw [L_zero, Nat.gcd_zero_right]
    exact Ev.ifn (by decide) (Ev.now _)
   ·have hl : (L y).length ≠ 0 := fun e => h0 (L_len_zero.1 e)
    refine Ev.ifp (by omega) (Ev.bind (Rem_to (S_L hx) (S_L hy) hm hm (by rw [V_L]; exact h0) rfl rfl) ?_)
    have hlt := Nat.mod_lt x (show 0 < y by omega)
    have := ih (x % y) hlt y hy (Nat.lt_trans hlt hy)
    rw [V_L, V_L]
    rw [Nat.gcd_comm y, ← Nat.gcd_rec y x, Nat.gcd_comm y] at this
    exact this
 unfold quo_Gcd.f
 refine Ev.bind (Trim_to sa (by omega) rfl) (Ev.bind (Trim_to sb (by omega) rfl) ?_)
 rw [← h]
 exact key _ _ sa.v sb.v
end
end Go.Proofs.YtpchdjdochkjpaaGreatDoor.Lib
set_option linter.unusedVariables false
set_option linter.unusedSimpArgs false
namespace Go.Proofs.YtpchdjdochkjpaaGreatDoor.Lib
open Go.RowKit Go.Proofs.YtpchdjdochkjpaaGreatDoorW.PrintWords Go.Proofs.YtpchdjdochkjpaaGreatDoorW.PrintMore Go.Proofs.YtpchdjdochkjpaaGreatDoor.P
theorem V_set (l : List Int) (y : Int) : ∀ k, k < l.length → V (l.set k y) + 4294967296 ^ k * (l.getD k 0).toNat = V l + 4294967296 ^ k * y.toNat := by
 induction l with
 | nil => intro k h; simp at h
 | cons x xs ih =>
  intro k h
  cases k with
  | zero => simp only [List.set_cons_zero, V_cons, Nat.pow_zero, Nat.one_mul, List.getD_cons_zero]; omega
  | succ k =>
   have := ih k (by simpa using h)
   simp only [List.set_cons_succ, V_cons, List.getD_cons_succ, Nat.pow_succ]
   generalize 4294967296 ^ k = P at *
   have e := congrArg (4294967296 * ·) this
   simp only [Nat.mul_add] at e
   rw [Nat.mul_comm P, Nat.mul_assoc, Nat.mul_assoc]
   omega
theorem or_two (x s : Nat) (h : x.testBit s = false) : x ||| 2 ^ s = x + 2 ^ s := by
 rw [Nat.testBit_eq_decide_div_mod_eq] at h
 have h0 : x / 2 ^ s % 2 = 0 := by
  have := of_decide_eq_false h
  omega
 have hlo : x % 2 ^ s < 2 ^ s := Nat.mod_lt _ (Nat.two_pow_pos s)
 have e1 : x = 2 ^ (s + 1) * (x / 2 ^ s / 2) + x % 2 ^ s := by
  have a1 := Nat.div_add_mod x (2 ^ s)
  have a2 := Nat.div_add_mod (x / 2 ^ s) 2
  rw [h0, Nat.add_zero] at a2
  rw [Nat.pow_succ, Nat.mul_assoc, a2]
  exact a1.symm
 generalize x / 2 ^ s / 2 = c at *
 generalize x % 2 ^ s = lo at *
 have hlo2 : 2 ^ s + lo < 2 ^ (s + 1) := by rw [Nat.pow_succ]; omega
 have hlo3 : lo < 2 ^ (s + 1) := by rw [Nat.pow_succ]; omega
 have e2 := Nat.two_pow_add_eq_or_of_lt hlo 1
 rw [Nat.mul_one] at e2
 rw [e1, Nat.two_pow_add_eq_or_of_lt hlo3, Nat.or_assoc, Nat.or_comm lo, ← e2, ← Nat.two_pow_add_eq_or_of_lt hlo2, ← Nat.two_pow_add_eq_or_of_lt hlo3]
 omega
theorem or_lt (x s : Nat) (hx : x < 4294967296) (hs : s < 32) : x ||| 2 ^ s < 4294967296 :=
 Nat.or_lt_two_pow (n := 32) hx (Nat.pow_lt_pow_right (by omega) hs)
theorem set_bit {l : List Int} (hw : W l) (i : Nat) (h : i / 32 < l.length) (hb : (V l).testBit i = false) :
  ∃ x : Nat, l.getD (i / 32) 0 = (x : Int) ∧ x + 2 ^ (i % 32) < 4294967296 ∧ x.testBit (i % 32) = false ∧ Go.bits .or .u32 (x : Int) ((2 ^ (i % 32) : Nat) : Int) = ((x + 2 ^ (i % 32) : Nat) : Int) ∧
   V (l.set (i / 32) ((x + 2 ^ (i % 32) : Nat) : Int)) = V l + 2 ^ i := by
 have g := W_get hw (i / 32)
 obtain ⟨x, hx⟩ := Int.eq_ofNat_of_zero_le g.1
 have hs : i % 32 < 32 := by omega
 have hxl : x < 4294967296 := by omega
 rw [testBit_V hw, hx, Int.toNat_natCast] at hb
 have hb2 : x.testBit (i % 32) = false := by rw [Nat.testBit_eq_decide_div_mod_eq]; exact hb
 have e := or_two x (i % 32) hb2
 have hlt := or_lt x _ hxl hs
 have hp : 2 ^ (i % 32) < 4294967296 := Nat.lt_of_le_of_lt (Nat.le_add_left _ x) (by rw [← e]; exact hlt)
 refine ⟨x, hx, by rw [← e]; exact hlt, hb2, by rw [Go.u32_or_nat _ _ hxl hp, e], ?_⟩
 have hv := V_set l ((x + 2 ^ (i % 32) : Nat) : Int) (i / 32) h
 rw [hx, Int.toNat_natCast, Int.toNat_natCast, Nat.mul_add, two_split] at hv
 omega
theorem no_bit {v i c : Nat} (h : v = 2 ^ (i + 1) * c) : v.testBit i = false := by
 rw [Nat.testBit_eq_decide_div_mod_eq, h, Nat.pow_succ, Nat.mul_assoc, Nat.mul_div_cancel_left _ (Nat.two_pow_pos i)]
 simp
theorem rRem_loop {A B n M len : Nat} (hB : 0 < B) (hM : M < 1000000) (hlen : len ≤ 1000000) (hA : A < Bp M) (hx : B * 2 ^ n < Bp M) : ∀ i lv (q x : List Int), W q → q.length = len → i ≤ 32 * len → i ≤ n + 1 → (∃ c, V q = 2 ^ i * c) → V q * B + lv = A → lv < B * 2 ^ i →
  (∀ j, i = j + 1 → x = L (B * 2 ^ j)) → Ev (fun k => steelyardref03_Rem.l0 k (L lv) q x ((i : Int) - 1)) (L (A / B), L (A % B), true) := by
 intro i
 induction i with
 | zero =>
  intro lv q x hw hl hi hn hc hv hlt hx'
  rw [Nat.pow_zero, Nat.mul_one] at hlt
  have e : A = lv + B * V q := by rw [← hv, Nat.mul_comm]; omega
  refine Ev.succ ?_
  simp only [steelyardref03_Rem.l0]
  rw [e, Nat.add_mul_div_left _ _ hB, Nat.add_mul_mod_self_left, Nat.div_eq_of_lt hlt, Nat.mod_eq_of_lt hlt, Nat.zero_add]
  exact Ev.ifn (by omega) (Ev.bind (rTrim_to (m := 1000000) ⟨hw, by omega⟩ (by omega) rfl) (Ev.now _))
 | succ i ih =>
  intro lv q x hw hl hi hn hc hv hlt hx'
  obtain ⟨c, hc⟩ := hc
  obtain rfl := hx' i rfl
  have hxi : B * 2 ^ i < Bp M := Nat.lt_of_le_of_lt (Nat.mul_le_mul_left _ (Nat.pow_le_pow_right (by omega) (by omega))) hx
  have hlv : lv < Bp M := by omega
  have hp2 : 2 ^ (i + 1) = 2 ^ i * 2 := Nat.pow_succ _ _
  have half : ∀ j, i = j + 1 → L (B * 2 ^ i / 2 ^ 1) = L (B * 2 ^ j) := fun j hj => by
   rw [hj, Nat.pow_succ 2 j, ← Nat.mul_assoc, Nat.pow_one, Nat.mul_div_cancel _ (by omega)]
  have dn : Ev (fun k => steelyardref02_Down.f k (L (B * 2 ^ i)) 1) (L (B * 2 ^ i / 2 ^ 1)) := by
   have := rDown_to (S_L hxi) (by omega) 1 (by omega) rfl
   rw [V_L] at this
   exact this
  obtain ⟨cc, hcc⟩ : ∃ cc, cmpI lv (B * 2 ^ i) = cc := ⟨_, rfl⟩
  have rc := cmpI_range lv (B * 2 ^ i)
  rw [hcc] at rc
  refine Ev.succ ?_
  simp only [steelyardref03_Rem.l0]
  rw [show (((i + 1 : Nat) : Int) - 1) = (i : Int) by omega, tdiv32, tmod32, w64 (x := ((i / 32 : Nat) : Int)) (by omega) (by omega), wu64 (x := ((i % 32 : Nat) : Int)) (by omega) (by omega), shl_one (by omega), rd_nat, Int.toNat_natCast, w64 (x := (i : Int) - 1) (by omega) (by omega)]
  refine Ev.ifp (by omega) (Ev.bind (rCmp_to (S_L hlv) (S_L hxi) (by omega) (c := cc) (by rw [V_L, V_L]; exact hcc)) ?_)
  by_cases hge : B * 2 ^ i ≤ lv
  ·obtain ⟨y, hy, hy1, _, hor, hvs⟩ := set_bit hw i (by omega) (no_bit hc)
   rw [hy, hor]
   refine Ev.ifp (by omega) (Ev.bind (rSub_to (S_L hlv) (S_L hxi) (by omega) (n := lv - B * 2 ^ i) (by rw [V_L, V_L]; omega)) (Ev.ifp (by omega) (Ev.ifp (by omega) (Ev.ifp (by omega) (Ev.bind dn ?_)))))
   refine ih (lv - B * 2 ^ i) _ _ (W_set hw _ (Int.natCast_nonneg _) (by omega)) (by rw [List.length_set]; exact hl) (by omega) (by omega) ⟨2 * c + 1, ?_⟩ ?_ ?_ half
   ·rw [hvs, hc, hp2, Nat.mul_add, Nat.mul_one, Nat.mul_assoc]
   ·rw [hvs, Nat.add_mul, Nat.mul_comm (2 ^ i) B]; omega
   ·rw [hp2, ← Nat.mul_assoc] at hlt; omega
  ·refine Ev.ifn (by omega) (Ev.bind dn ?_)
   exact ih lv _ _ hw hl (by omega) (by omega) ⟨2 * c, by rw [hc, hp2, Nat.mul_assoc]⟩ hv (by omega) half
section
variable {m p n x y q r : Nat} {l a b : List Int}
theorem rRem_to (sa : S m a) (sb : S p b) (hm : m ≤ 100000) (hp : p ≤ 100000) (h0 : V b ≠ 0) (hq : V a / V b = q) (hr : V a % V b = r) : Ev (fun k => steelyardref03_Rem.f k a b) (L q, L r, true) := by
 have hb := bl_pos h0
 have ha1 := bl_S sa
 have hb1 := bl_S sb
 obtain ⟨n, hn⟩ : ∃ n, bl (V a) - bl (V b) = n := ⟨_, rfl⟩
 have hmx : mx 0 (wrap64 (((bl (V a) : Nat) : Int) - ((bl (V b) : Nat) : Int))) = (n : Int) := by
  rw [w64 (by omega) (by omega)]
  unfold mx
  split <;> omega
 have hlt : V a < V b * 2 ^ (n + 1) := by
  refine Nat.lt_of_lt_of_le (bl_lt _) (Nat.le_trans (Nat.pow_le_pow_right (by omega) (show bl (V a) ≤ bl (V b) - 1 + (n + 1) by omega)) ?_)
  rw [Nat.pow_add]
  exact Nat.mul_le_mul_right _ (bl_le h0)
 have hx : V b * 2 ^ n < Bp (m + p + 1) := lt_mul sb.v (two_lt (m := m + 1) (by omega)) (by omega)
 unfold steelyardref03_Rem.f
 refine Ev.bind (rBits_to sb (by omega) rfl) (Ev.ifn (by omega) (Ev.bind (rTrim_to sa (by omega) rfl) (Ev.bind (rBits_to sa (by omega) rfl) (Ev.bind (rBits_to sb (by omega) rfl) ?_))))
 rw [hmx, tdiv32, w64 (x := ((n / 32 : Nat) : Int)) (by omega) (by omega), w64_succ (by omega), Int.toNat_natCast]
 refine Ev.ifp (by omega) (Ev.ifp (by omega) (Ev.bind (rUp_to sb (by omega) n (by omega) rfl) ?_))
 have := rRem_loop (A := V a) (B := V b) (n := n) (M := m + p + 1) (len := n / 32 + 1) (by omega) (by omega) (by omega) (lt_up sa.v (by omega)) hx (n + 1) (V a) (List.replicate (n / 32 + 1) 0) (L (V b * 2 ^ n)) (W_rep _) (by rw [List.length_replicate]) (by omega) (by omega) ⟨0, by rw [V_rep, Nat.mul_zero]⟩
  (by rw [V_rep, Nat.zero_mul, Nat.zero_add]) hlt (fun j hj => by rw [show n = j by omega])
 rw [show (((n + 1 : Nat) : Int) - 1) = (n : Int) by omega, hq, hr] at this
 exact this
theorem rGcd_to (sa : S m a) (sb : S m b) (hm : m ≤ 100000) (h : Nat.gcd (V a) (V b) = n) : Ev (fun k => steelyardref03_Gcd.f k a b) (L n) := by
 have key : ∀ y x, x < Bp m → y < Bp m → Ev (fun k => steelyardref03_Gcd.l0 k (L x) (L y)) (L (Nat.gcd x y)) := by
  intro y
  induction y using Nat.strongRecOn with
  | ind y ih =>
   intro x hx hy
   refine Ev.succ ?_
   simp only [steelyardref03_Gcd.l0]
   by_cases h0 : y = 0
   ·subst h0
    rw [L_zero, Nat.gcd_zero_right]
    exact Ev.ifn (by decide) (Ev.now _)
   ·have hl : (L y).length ≠ 0 := fun e => h0 (L_len_zero.1 e)
    refine Ev.ifp (by omega) (Ev.bind (rRem_to (S_L hx) (S_L hy) hm hm (by rw [V_L]; exact h0) rfl rfl) ?_)
    have hlt := Nat.mod_lt x (show 0 < y by omega)
    have := ih (x % y) hlt y hy (Nat.lt_trans hlt hy)
    rw [V_L, V_L]
    rw [Nat.gcd_comm y, ← Nat.gcd_rec y x, Nat.gcd_comm y] at this
    exact this
 unfold steelyardref03_Gcd.f
 refine Ev.bind (rTrim_to sa (by omega) rfl) (Ev.bind (rTrim_to sb (by omega) rfl) ?_)
 rw [← h]
 exact key _ _ sa.v sb.v
end
end Go.Proofs.YtpchdjdochkjpaaGreatDoor.Lib
set_option linter.unusedVariables false
set_option linter.unusedSimpArgs false
namespace Go.Proofs.YtpchdjdochkjpaaGreatDoor.Lib
open Go.RowKit Go.Proofs.YtpchdjdochkjpaaGreatDoorW.PrintWords Go.Proofs.YtpchdjdochkjpaaGreatDoorW.PrintMore
def ns (s : ByteArray) : List Int := s.data.toList.map fun b => (b.toNat : Int)
def B8 (l : List Int) : Prop := ∀ x ∈ l, 0 ≤ x ∧ x < 256
theorem ns_len (s : ByteArray) : (ns s).length = s.size := by unfold ns; rw [List.length_map, Array.length_toList]; rfl
theorem ns_B8 (s : ByteArray) : B8 (ns s) := fun x hx => by
 simp only [ns, List.mem_map] at hx
 obtain ⟨b, _, rfl⟩ := hx
 have := b.toNat_lt
 omega
theorem bt_ns (s : ByteArray) (i : Nat) : bt s (i : Int) = (ns s).getD i 0 := by
 unfold bt
 rw [Int.toNat_natCast]
 by_cases h : i < s.size
 ·rw [dif_pos h, List.getD_eq_getElem?_getD, List.getElem?_eq_getElem (by rw [ns_len]; exact h), Option.getD_some]
  simp only [ns, List.getElem_map, ByteArray.getElem_eq_getElem_data, Array.getElem_toList]
 ·rw [dif_neg h, List.getD_eq_getElem?_getD, List.getElem?_eq_none (by rw [ns_len]; omega), Option.getD_none]
theorem ns_append (s t : ByteArray) : ns (s ++ t) = ns s ++ ns t := by simp [ns, ByteArray.data_append]
theorem ns_extract (s : ByteArray) (a b : Nat) : ns (s.extract a b) = ((ns s).drop a).take (b - a) := by
 simp only [ns, ByteArray.data_extract, Array.toList_extract, List.extract_eq_take_drop, List.map_take, List.map_drop]
theorem ns_strOf {l : List Int} (h : B8 l) : ns (strOfNums l) = l := by
 unfold ns
 rw [strOfNums_data, List.map_map]
 conv => rhs; rw [← List.map_id l]
 refine List.map_congr_left fun x hx => ?_
 have := h x hx
 simp only [Function.comp_apply, id_eq, UInt8.toNat_ofNat']
 omega
theorem ns_inj {s t : ByteArray} (h : ns s = ns t) : s = t := by
 have h2 : s.data.toList = t.data.toList := by
  unfold ns at h
  refine List.map_inj_right (f := fun b : UInt8 => (b.toNat : Int)) (fun a b e => ?_) |>.1 h
  exact UInt8.toNat_inj.1 (Int.ofNat.inj e)
 cases s; cases t
 simp only [ByteArray.mk.injEq]
 exact Array.toList_inj.1 h2
theorem ns_eq_iff {s t : ByteArray} : s.toList = t.toList ↔ ns s = ns t := by
 rw [ByteArray.toList_eq, ByteArray.toList_eq]
 constructor
 ·intro h; unfold ns; rw [h]
 ·intro h; rw [ns_inj h]
theorem ns_nil_iff {s : ByteArray} : s.toList = ([] : List UInt8) ↔ ns s = [] := by
 rw [ByteArray.toList_eq]
 unfold ns
 rw [List.map_eq_nil_iff]
theorem ns_size (s : ByteArray) : s.size = (ns s).length := (ns_len s).symm
end Go.Proofs.YtpchdjdochkjpaaGreatDoor.Lib
set_option linter.unusedVariables false
set_option linter.unusedSimpArgs false
namespace Go.Proofs.YtpchdjdochkjpaaGreatDoor.Lib
open Go.RowKit Go.Proofs.YtpchdjdochkjpaaGreatDoorW.PrintWords Go.Proofs.YtpchdjdochkjpaaGreatDoorW.PrintMore
def Dg (l : List Int) : Prop := ∀ x ∈ l, 48 ≤ x ∧ x ≤ 57
def lv : List Int → Nat
 | [] => 0
 | x :: xs => (x - 48).toNat + 10 * lv xs
def pv (l : List Int) : Nat := l.foldl (fun v x => 10 * v + (x - 48).toNat) 0
def dl (n : Nat) : List Int := if h : n = 0 then [] else ((48 + n % 10 : Nat) : Int) :: dl (n / 10)
termination_by n
decreasing_by exact Nat.div_lt_self (by omega) (by omega)
def tx (n : Nat) : List Int := if n = 0 then [48] else (dl n).reverse
end Go.Proofs.YtpchdjdochkjpaaGreatDoor.Lib
set_option linter.unusedVariables false
set_option linter.unusedSimpArgs false
namespace Go.Proofs.YtpchdjdochkjpaaGreatDoor.Lib
open Go.RowKit Go.Proofs.YtpchdjdochkjpaaGreatDoorW.PrintWords Go.Proofs.YtpchdjdochkjpaaGreatDoorW.PrintMore Go.Proofs.YtpchdjdochkjpaaGreatDoor.P
def T (n : Nat) : ByteArray := strOfNums (tx n)
end Go.Proofs.YtpchdjdochkjpaaGreatDoor.Lib
set_option linter.unusedVariables false
set_option linter.unusedSimpArgs false
namespace Go.Proofs.YtpchdjdochkjpaaGreatDoor.Lib
open Go.RowKit Go.Proofs.YtpchdjdochkjpaaGreatDoorW.PrintWords Go.Proofs.YtpchdjdochkjpaaGreatDoorW.PrintMore Go.Proofs.YtpchdjdochkjpaaGreatDoor.P
end Go.Proofs.YtpchdjdochkjpaaGreatDoor.Lib
set_option linter.unusedVariables false
set_option linter.unusedSimpArgs false
namespace Go.Proofs.YtpchdjdochkjpaaGreatDoor.Lib
open Go.RowKit Go.Proofs.YtpchdjdochkjpaaGreatDoorW.PrintWords Go.Proofs.YtpchdjdochkjpaaGreatDoorW.PrintMore Go.Proofs.YtpchdjdochkjpaaGreatDoor.P
end Go.Proofs.YtpchdjdochkjpaaGreatDoor.Lib
set_option linter.unusedVariables false
set_option linter.unusedSimpArgs false
namespace Go.Proofs.YtpchdjdochkjpaaGreatDoor.Lib
open Go.RowKit Go.Proofs.YtpchdjdochkjpaaGreatDoorW.PrintWords Go.Proofs.YtpchdjdochkjpaaGreatDoorW.PrintMore Go.Proofs.YtpchdjdochkjpaaGreatDoor.P
end Go.Proofs.YtpchdjdochkjpaaGreatDoor.Lib
set_option linter.unusedVariables false
set_option linter.unusedSimpArgs false
namespace Go.Proofs.YtpchdjdochkjpaaGreatDoor.Lib
open Go.RowKit Go.Proofs.YtpchdjdochkjpaaGreatDoorW.PrintWords Go.Proofs.YtpchdjdochkjpaaGreatDoorW.PrintMore Go.Proofs.YtpchdjdochkjpaaGreatDoor.P
variable {m p : Nat} {a b l : List Int} {x y : Bool}
def vz (x : Bool) (l : List Int) : Int := if x then -(V l : Int) else (V l : Int)
def cz (z : Int) : Bool × List Int := (decide (z < 0), L z.natAbs)
theorem vz_t (l : List Int) : vz true l = -(V l : Int) := rfl
theorem vz_f (l : List Int) : vz false l = (V l : Int) := rfl
theorem vz_abs (x : Bool) (l : List Int) : (vz x l).natAbs = V l := by cases x <;> simp [vz]
theorem vz_cz (z : Int) : vz (cz z).1 (cz z).2 = z := by
 unfold cz vz
 by_cases h : z < 0
 ·simp only [decide_eq_true h, if_true, V_L]; omega
 ·simp only [decide_eq_false h, Bool.false_eq_true, if_false, V_L]; omega
theorem vz_not (x : Bool) (l : List Int) : vz (!x) l = -vz x l := by cases x <;> simp [vz]
theorem S_cz {z : Int} (h : z.natAbs < Bp m) : S m (cz z).2 := S_L h
theorem S_vz (x : Bool) (s : S m l) : (vz x l).natAbs < Bp m := by rw [vz_abs]; exact s.v
theorem cz_pos (n : Nat) : cz (n : Int) = (false, L n) := by
 unfold cz
 rw [decide_eq_false (by omega), Int.natAbs_natCast]
theorem L_gt {n : Nat} : decide (((L n).length : Int) > 0) = decide (0 < n) := by
 rw [decide_eq_decide]
 have := @L_len_zero n
 omega
theorem cz_of (x : Bool) (n : Nat) : (if x = true then (decide (((L n).length : Int) > 0), L n) else (false, L n)) = cz (if x then -(n : Int) else n) := by
 cases x
 ·simp [cz_pos]
 ·simp only [if_true, L_gt]
  unfold cz
  congr 1
  ·rw [decide_eq_decide]; omega
  ·congr 1; omega
theorem pick_ev {x : Bool} {n : Nat} {z : Int} (h : (if x then -(n : Int) else n) = z) : (fun _ : Nat => if x = true then some (decide (((L n).length : Int) > 0), L n) else some (false, L n)) = fun _ => some (cz z) := by
 funext k
 rw [← h, ← cz_of]
 cases x <;> rfl
theorem made_to (s : S m l) (hm : m ≤ 1000000) {z : Int} (h : vz x l = z) : Ev (fun k => whole_made.f k x l) (cz z) := by
 unfold whole_made.f
 have hl := s.2
 refine Ev.ifp (by omega) (Ev.ifp (by omega) ?_)
 rw [cpy_take _ _ (by omega), List.take_of_length_le (by omega)]
 refine Ev.bind (Trim_to s hm rfl) ?_
 rw [pick_ev (x := x) (n := V l) (z := z) h]
 exact Ev.now _
theorem wTrim_to (s : S m l) (hm : m ≤ 1000000) {z : Int} (h : vz x l = z) : Ev (fun k => whole_Trim.f k x l) (cz z) := by
 unfold whole_Trim.f
 exact Ev.bind (made_to s hm h) (Ev.now _)
theorem wNeg_to (s : S m l) (hm : m ≤ 1000000) {z : Int} (h : -vz x l = z) : Ev (fun k => whole_Neg.f k x l) (cz z) := by
 unfold whole_Neg.f
 exact Ev.bind (made_to s hm (by rw [vz_not]; exact h)) (Ev.now _)
theorem wOf_to {v : Int} (h0 : -9223372036854775808 ≤ v) (h1 : v ≤ 9223372036854775807) : Ev (fun k => whole_Of.f k v) (cz v) := by
 unfold whole_Of.f
 by_cases c : v < 0
 ·have e : IntKind.u64.wrap (-(IntKind.u64.wrap v)) = -v := by simp only [IntKind.wrap_u64]; omega
  rw [e]
  refine Ev.ifp c (Ev.bind (Of_to (n := v.natAbs) (by omega) (by omega) (by omega)) ?_)
  refine Ev.bind (made_to (m := 2) (S_L (lt_num (by omega) (by omega))) (by omega) (z := v) ?_) (Ev.now _)
  rw [vz_t, V_L]; omega
 ·have e : IntKind.u64.wrap v = v := by simp only [IntKind.wrap_u64]; omega
  rw [e]
  refine Ev.ifn c (Ev.bind (Of_to (n := v.natAbs) (by omega) (by omega) (by omega)) ?_)
  refine Ev.bind (made_to (m := 2) (S_L (lt_num (by omega) (by omega))) (by omega) (z := v) ?_) (Ev.now _)
  rw [vz_f, V_L]; omega
theorem cz1 (z : Int) : (cz z).1 = decide (z < 0) := rfl
theorem cz2 (z : Int) : (cz z).2 = L z.natAbs := rfl
theorem vz_if (x : Bool) (n : Nat) : vz x (L n) = if x then -(n : Int) else n := by cases x <;> simp [vz, V_L]
theorem vz_mul (x y : Bool) (a b : List Int) : vz (x != y) (L (V a * V b)) = vz x a * vz y b := by
 rw [vz_if]
 cases x <;> cases y <;> simp [vz, Int.mul_neg, Int.neg_mul]
theorem wMul_to (sa : S m a) (sb : S p b) (hm : m + p ≤ 1000000) {z : Int} (h : vz x a * vz y b = z) : Ev (fun k => whole_Mul.f k x a y b) (cz z) := by
 unfold whole_Mul.f
 refine Ev.bind (Mul_to sa sb hm rfl) ?_
 exact Ev.bind (made_to (m := m + p) (S_L (lt_mul sa.v sb.v (by omega))) (by omega) (by rw [vz_mul]; exact h)) (Ev.now _)
def cmpZ (u w : Int) : Int := if u < w then -1 else if w < u then 1 else 0
theorem wCmp_to (sa : S m a) (sb : S m b) (hm : m ≤ 1000000) {c : Int} (h : cmpZ (vz x a) (vz y b) = c) : Ev (fun k => whole_Cmp.f k x a y b) c := by
 unfold whole_Cmp.f
 have s1 : S m (cz (vz x a)).2 := S_cz (S_vz x sa)
 have s2 : S m (cz (vz y b)).2 := S_cz (S_vz y sb)
 have v1 : V (cz (vz x a)).2 = (vz x a).natAbs := V_L _
 have v2 : V (cz (vz y b)).2 = (vz y b).natAbs := V_L _
 refine Ev.bind (wTrim_to sa (by omega) rfl) (Ev.bind (wTrim_to sb (by omega) rfl) ?_)
 generalize vz x a = u at *
 generalize vz y b = w at *
 subst h
 have key : Ev (fun k => if (cz u).1 = true then (nat_Cmp.f k (cz w).2 (cz u).2).bind fun t297 => some t297 else (nat_Cmp.f k (cz u).2 (cz w).2).bind fun t298 => some t298) (cmpZ u w) ∨ (u < 0 ∧ ¬ w < 0) ∨ (w < 0 ∧ ¬ u < 0) := by
  by_cases c1 : u < 0
  ·by_cases c2 : w < 0
   ·refine .inl (Ev.ifp (decide_eq_true c1) (Ev.bind (Cmp_to s2 s1 hm rfl) ?_))
    have : cmpI (V (cz w).2) (V (cz u).2) = cmpZ u w := by
     rw [v1, v2]; unfold cmpI cmpZ
     split <;> split <;> (try split) <;> (try split) <;> omega
    rw [this]; exact Ev.now _
   ·exact .inr (.inl ⟨c1, c2⟩)
  ·by_cases c2 : w < 0
   ·exact .inr (.inr ⟨c2, c1⟩)
   ·refine .inl (Ev.ifn (by rw [cz1, decide_eq_false c1]; decide) (Ev.bind (Cmp_to s1 s2 hm rfl) ?_))
    have : cmpI (V (cz u).2) (V (cz w).2) = cmpZ u w := by
     rw [v1, v2]; unfold cmpI cmpZ
     split <;> split <;> (try split) <;> (try split) <;> omega
    rw [this]; exact Ev.now _
 have j1 : ∀ q : Bool, (q = true ↔ (w < 0 ∧ ¬ u < 0)) → ¬ (u < 0 ∧ ¬ w < 0) → Ev (fun k => whole_Cmp.j1 k q (cz u).1 (cz u).2 (cz w).1 (cz w).2) (cmpZ u w) := fun q hq hn => by
  refine Ev.succ ?_
  simp only [whole_Cmp.j1]
  by_cases c : q = true
  ·refine Ev.ifp c ?_
   have := hq.1 c
   rw [show cmpZ u w = 1 by unfold cmpZ; rw [if_neg (by omega), if_pos (by omega)]]
   exact Ev.now _
  ·refine Ev.ifn c ?_
   rcases key with k | k | k
   ·exact k
   ·exact absurd k hn
   ·exact absurd (hq.2 k) c
 have j0 : ∀ q : Bool, (q = true ↔ (u < 0 ∧ ¬ w < 0)) → Ev (fun k => whole_Cmp.j0 k q (cz u).1 (cz u).2 (cz w).1 (cz w).2) (cmpZ u w) := fun q hq => by
  refine Ev.succ ?_
  simp only [whole_Cmp.j0]
  by_cases c : q = true
  ·refine Ev.ifp c ?_
   have := hq.1 c
   rw [show cmpZ u w = -1 by unfold cmpZ; rw [if_pos (by omega)]]
   exact Ev.now _
  ·refine Ev.ifn c ?_
   have hn : ¬ (u < 0 ∧ ¬ w < 0) := fun h => c (hq.2 h)
   by_cases d : w < 0
   ·exact Ev.ifp (decide_eq_true d) (j1 _ (by simp [cz1, d]) hn)
   ·exact Ev.ifn (by rw [cz1, decide_eq_false d]; decide) (j1 _ (by simp [d]) hn)
 by_cases d : u < 0
 ·exact Ev.ifp (decide_eq_true d) (j0 _ (by simp [cz1, d]))
 ·exact Ev.ifn (by rw [cz1, decide_eq_false d]; decide) (j0 _ (by simp [d]))
def TZ (z : Int) : ByteArray := if z < 0 then (⟨#[45]⟩ : ByteArray) ++ T z.natAbs else T z.natAbs
theorem rMake_to (s : S m l) (hm : m ≤ 1000000) {z : Int} (h : vz x l = z) : Ev (fun k => steelyardref06_Make.f k x l) (cz z) := by
 unfold steelyardref06_Make.f
 refine Ev.bind (rTrim_to s hm rfl) ?_
 rw [pick_ev (x := x) (n := V l) (z := z) h]
 exact Ev.now _
theorem rZTrim_to (s : S m l) (hm : m ≤ 1000000) {z : Int} (h : vz x l = z) : Ev (fun k => steelyardref06_Trim.f k x l) (cz z) := by
 unfold steelyardref06_Trim.f
 exact Ev.bind (rMake_to s hm h) (Ev.now _)
theorem rZOf_to {v : Int} (h0 : -9223372036854775808 ≤ v) (h1 : v ≤ 9223372036854775807) : Ev (fun k => steelyardref06_Of.f k v) (cz v) := by
 unfold steelyardref06_Of.f
 by_cases c : v < 0
 ·have e : IntKind.u64.wrap ((IntKind.u64.wrap (wrap64 (-(wrap64 (v + 1))))) + 1) = -v := by
   rw [w64 (x := v + 1) (by omega) (by omega), w64 (by omega) (by omega)]
   simp only [IntKind.wrap_u64]; omega
  rw [e]
  refine Ev.ifp c (Ev.bind (rOf_to (n := v.natAbs) (by omega) (by omega) (by omega)) ?_)
  refine Ev.bind (rMake_to (m := 2) (S_L (lt_num (by omega) (by omega))) (by omega) (z := v) ?_) (Ev.now _)
  rw [vz_t, V_L]; omega
 ·have e : IntKind.u64.wrap v = v := by simp only [IntKind.wrap_u64]; omega
  rw [e]
  refine Ev.ifn c (Ev.bind (rOf_to (n := v.natAbs) (by omega) (by omega) (by omega)) ?_)
  refine Ev.bind (rMake_to (m := 2) (S_L (lt_num (by omega) (by omega))) (by omega) (z := v) ?_) (Ev.now _)
  rw [vz_f, V_L]; omega
theorem rZMul_to (sa : S m a) (sb : S p b) (hm : m + p < 300000) {z : Int} (h : vz x a * vz y b = z) : Ev (fun k => steelyardref06_Mul.f k x a y b) (cz z) := by
 unfold steelyardref06_Mul.f
 refine Ev.bind (rZTrim_to sa (by omega) rfl) (Ev.bind (rZTrim_to sb (by omega) rfl) (Ev.bind (rMul_to sa sb hm rfl) ?_))
 refine Ev.bind (rMake_to (m := m + p) (S_L (lt_mul sa.v sb.v (by omega))) (by omega) (z := z) ?_) (Ev.now _)
 rw [vz_if, cz1, cz1, ← h]
 have e1 := vz_abs x a
 have e2 := vz_abs y b
 have e : ((V a * V b : Nat) : Int) = (vz x a).natAbs * (vz y b).natAbs := by rw [e1, e2]; simp
 rw [e]
 generalize vz x a = u
 generalize vz y b = w
 by_cases c1 : u < 0 <;> by_cases c2 : w < 0
 ·rw [decide_eq_true c1, decide_eq_true c2]
  simp only [bne_self_eq_false, Bool.false_eq_true, if_false]
  rw [show (u.natAbs : Int) = -u by omega, show (w.natAbs : Int) = -w by omega, Int.neg_mul_neg]
 ·rw [decide_eq_true c1, decide_eq_false c2]
  simp only [show (true != false) = true from rfl, if_true]
  rw [show (u.natAbs : Int) = -u by omega, show (w.natAbs : Int) = w by omega, Int.neg_mul, Int.neg_neg]
 ·rw [decide_eq_false c1, decide_eq_true c2]
  simp only [show (false != true) = true from rfl, if_true]
  rw [show (u.natAbs : Int) = u by omega, show (w.natAbs : Int) = -w by omega, Int.mul_neg, Int.neg_neg]
 ·rw [decide_eq_false c1, decide_eq_false c2]
  simp only [bne_self_eq_false, Bool.false_eq_true, if_false]
  rw [show (u.natAbs : Int) = u by omega, show (w.natAbs : Int) = w by omega]
theorem rZCmp_to (sa : S m a) (sb : S m b) (hm : m ≤ 1000000) {c : Int} (h : cmpZ (vz x a) (vz y b) = c) : Ev (fun k => steelyardref06_Cmp.f k x a y b) c := by
 unfold steelyardref06_Cmp.f
 have s1 : S m (cz (vz x a)).2 := S_cz (S_vz x sa)
 have s2 : S m (cz (vz y b)).2 := S_cz (S_vz y sb)
 have v1 : V (cz (vz x a)).2 = (vz x a).natAbs := V_L _
 have v2 : V (cz (vz y b)).2 = (vz y b).natAbs := V_L _
 refine Ev.bind (rZTrim_to sa (by omega) rfl) (Ev.bind (rZTrim_to sb (by omega) rfl) ?_)
 generalize vz x a = u at *
 generalize vz y b = w at *
 subst h
 have key : Ev (fun k => if (cz u).1 = true then (steelyardref01_Cmp.f k (cz w).2 (cz u).2).bind fun t605 => some t605 else (steelyardref01_Cmp.f k (cz u).2 (cz w).2).bind fun t606 => some t606) (cmpZ u w) ∨ (u < 0 ∧ ¬ w < 0) ∨ (w < 0 ∧ ¬ u < 0) := by
  by_cases c1 : u < 0
  ·by_cases c2 : w < 0
   ·refine .inl (Ev.ifp (decide_eq_true c1) (Ev.bind (rCmp_to s2 s1 hm rfl) ?_))
    have : cmpI (V (cz w).2) (V (cz u).2) = cmpZ u w := by
     rw [v1, v2]; unfold cmpI cmpZ
     split <;> split <;> (try split) <;> (try split) <;> omega
    rw [this]; exact Ev.now _
   ·exact .inr (.inl ⟨c1, c2⟩)
  ·by_cases c2 : w < 0
   ·exact .inr (.inr ⟨c2, c1⟩)
   ·refine .inl (Ev.ifn (by rw [cz1, decide_eq_false c1]; decide) (Ev.bind (rCmp_to s1 s2 hm rfl) ?_))
    have : cmpI (V (cz u).2) (V (cz w).2) = cmpZ u w := by
     rw [v1, v2]; unfold cmpI cmpZ
     split <;> split <;> (try split) <;> (try split) <;> omega
    rw [this]; exact Ev.now _
 have j1 : ∀ q : Bool, (q = true ↔ (w < 0 ∧ ¬ u < 0)) → ¬ (u < 0 ∧ ¬ w < 0) → Ev (fun k => steelyardref06_Cmp.j1 k q (cz u).1 (cz u).2 (cz w).1 (cz w).2) (cmpZ u w) := fun q hq hn => by
  refine Ev.succ ?_
  simp only [steelyardref06_Cmp.j1]
  by_cases c : q = true
  ·refine Ev.ifp c ?_
   have := hq.1 c
   rw [show cmpZ u w = 1 by unfold cmpZ; rw [if_neg (by omega), if_pos (by omega)]]
   exact Ev.now _
  ·refine Ev.ifn c ?_
   rcases key with k | k | k
   ·exact k
   ·exact absurd k hn
   ·exact absurd (hq.2 k) c
 have j0 : ∀ q : Bool, (q = true ↔ (u < 0 ∧ ¬ w < 0)) → Ev (fun k => steelyardref06_Cmp.j0 k q (cz u).1 (cz u).2 (cz w).1 (cz w).2) (cmpZ u w) := fun q hq => by
  refine Ev.succ ?_
  simp only [steelyardref06_Cmp.j0]
  by_cases c : q = true
  ·refine Ev.ifp c ?_
   have := hq.1 c
   rw [show cmpZ u w = -1 by unfold cmpZ; rw [if_pos (by omega)]]
   exact Ev.now _
  ·refine Ev.ifn c ?_
   have hn : ¬ (u < 0 ∧ ¬ w < 0) := fun h => c (hq.2 h)
   by_cases d : u < 0
   ·exact Ev.ifp (decide_eq_true d) (j1 _ (by simp [d]) hn)
   ·exact Ev.ifn (by rw [cz1, decide_eq_false d]; decide) (j1 _ (by simp [cz1, d]) hn)
 by_cases d : u < 0
 ·exact Ev.ifp (decide_eq_true d) (j0 _ (by simp [cz1, d]))
 ·exact Ev.ifn (by rw [cz1, decide_eq_false d]; decide) (j0 _ (by simp [d]))
end Go.Proofs.YtpchdjdochkjpaaGreatDoor.Lib
set_option linter.unusedVariables false
set_option linter.unusedSimpArgs false
namespace Go.Proofs.YtpchdjdochkjpaaGreatDoor.Lib
open Go.RowKit Go.Proofs.YtpchdjdochkjpaaGreatDoorW.PrintWords Go.Proofs.YtpchdjdochkjpaaGreatDoorW.PrintMore Go.Proofs.YtpchdjdochkjpaaGreatDoor.P
end Go.Proofs.YtpchdjdochkjpaaGreatDoor.Lib
set_option linter.unusedVariables false
set_option linter.unusedSimpArgs false
namespace Go.Proofs.YtpchdjdochkjpaaGreatDoor.Lib
open Go.RowKit Go.Proofs.YtpchdjdochkjpaaGreatDoorW.PrintWords Go.Proofs.YtpchdjdochkjpaaGreatDoorW.PrintMore Go.Proofs.YtpchdjdochkjpaaGreatDoor.P
variable {m p : Nat} {a b l : List Int} {x y : Bool}
theorem keepInt_to (sa : S m a) (hm : m ≤ 1000000) (h : (x, a) = (y, b)) : Ev (fun k => steelyardkeep_Int.f k x a y b) true := by
 obtain ⟨rfl, rfl⟩ := Prod.mk.injEq .. ▸ h
 unfold steelyardkeep_Int.f
 exact Ev.ifp (by simp) (Ev.bind (keep_to sa hm rfl) (Ev.now _))
theorem na_mul {u w : Int} {m p q : Nat} (h : u.natAbs < Bp m) (k : w.natAbs < Bp p) (l : m + p ≤ q) : (u * w).natAbs < Bp q := by rw [Int.natAbs_mul]; exact lt_mul h k l
theorem na_neg {u : Int} {m : Nat} (h : u.natAbs < Bp m) : (-u).natAbs < Bp m := by rw [Int.natAbs_neg]; exact h
def sg (s : ByteArray) : Bool := decide (0 < s.size) && decide (bt s 0 = 45)
def rs (s : ByteArray) : ByteArray := if sg s = true then s.extract 1 s.size else s
def pz (x : Bool) (R : List Int × Bool) : Bool × List Int × Bool :=
 if R.2 = true then (if x = true ∧ (R.1.length : Int) = 0 then (false, [], false) else ((cz (vz x R.1)).1, (cz (vz x R.1)).2, true)) else (false, [], false)
end Go.Proofs.YtpchdjdochkjpaaGreatDoor.Lib
set_option linter.unusedVariables false
set_option linter.unusedSimpArgs false
namespace Go.Proofs.YtpchdjdochkjpaaGreatDoor.Lib
open Go.RowKit Go.Proofs.YtpchdjdochkjpaaGreatDoorW.PrintWords Go.Proofs.YtpchdjdochkjpaaGreatDoorW.PrintMore Go.Proofs.YtpchdjdochkjpaaGreatDoor.P
variable {m p : Nat} {a b l : List Int} {x y : Bool}
theorem cmpZ_lt {u w : Int} (h : u < w) : cmpZ u w = -1 := by unfold cmpZ; rw [if_pos h]
theorem cmpZ_gt {u w : Int} (h : w < u) : cmpZ u w = 1 := by unfold cmpZ; rw [if_neg (by omega), if_pos h]
theorem cmpZ_eq (u : Int) : cmpZ u u = 0 := by unfold cmpZ; rw [if_neg (by omega), if_neg (by omega)]
theorem cmpZ_cases (u w : Int) : (u < w ∧ cmpZ u w = -1) ∨ (u = w ∧ cmpZ u w = 0) ∨ (w < u ∧ cmpZ u w = 1) := by
 rcases Int.lt_trichotomy u w with h | h | h
 ·exact .inl ⟨h, cmpZ_lt h⟩
 ·exact .inr (.inl ⟨h, by rw [h]; exact cmpZ_eq w⟩)
 ·exact .inr (.inr ⟨h, cmpZ_gt h⟩)
end Go.Proofs.YtpchdjdochkjpaaGreatDoor.Lib
set_option linter.unusedVariables false
set_option linter.unusedSimpArgs false
namespace Go.Proofs.YtpchdjdochkjpaaGreatDoor.Lib
open Go.RowKit Go.Proofs.YtpchdjdochkjpaaGreatDoorW.PrintWords Go.Proofs.YtpchdjdochkjpaaGreatDoorW.PrintMore Go.Proofs.YtpchdjdochkjpaaGreatDoor.P
variable {m p : Nat} {a b c d l : List Int} {x y : Bool} {q r : Rat}
def Qs (q : Rat) : Prop := q.num.natAbs < Bp 64 ∧ q.den < Bp 64
instance (q : Rat) : Decidable (Qs q) := inferInstanceAs (Decidable (_ ∧ _))
def qr (q : Rat) : Bool × List Int × List Int × Int := if Qs q then ((cz q.num).1, (cz q.num).2, L q.den, 0) else (false, [], [], 2)
theorem qr_yes (h : Qs q) : qr q = ((cz q.num).1, (cz q.num).2, L q.den, 0) := if_pos h
theorem qr_no (h : ¬ Qs q) : qr q = (false, [], [], 2) := if_neg h
theorem len_gt {n m : Nat} : ((L n).length : Int) > m ↔ ¬ n < Bp m := by
 have : (L n).length ≤ m ↔ n < Bp m := len_le_iff
 omega
theorem len0 {n : Nat} : ((L n).length : Int) = 0 ↔ n = 0 := by
 have := @L_len_zero n
 omega
theorem mk_num {z : Int} {n : Nat} (h : n ≠ 0) : (mkRat z n).num.natAbs = z.natAbs / Nat.gcd z.natAbs n := by
 rw [Rat.num_mkRat, if_neg h, Nat.gcd_comm]
 exact Int.natAbs_ediv_of_dvd (Int.ofNat_dvd_left.2 (Nat.gcd_dvd_left _ _))
theorem mk_den {z : Int} {n : Nat} (h : n ≠ 0) : (mkRat z n).den = n / Nat.gcd z.natAbs n := by
 rw [Rat.den_mkRat, if_neg h, Nat.gcd_comm]
theorem mk_neg {z : Int} {n : Nat} (h : n ≠ 0) : decide (z < 0) = decide ((mkRat z n).num < 0) := by
 rw [Rat.num_mkRat, if_neg h]
 have hg : 0 < Nat.gcd n z.natAbs := Nat.gcd_pos_of_pos_left _ (by omega)
 obtain ⟨c, hc⟩ : ((Nat.gcd n z.natAbs : Nat) : Int) ∣ z := Int.ofNat_dvd_left.2 (Nat.gcd_dvd_right _ _)
 generalize Nat.gcd n z.natAbs = g at hg hc ⊢
 subst hc
 have e : (g : Int) * c / (g : Int) = c := Int.mul_ediv_cancel_left _ (by omega)
 rw [e, decide_eq_decide]
 have hg' : (0 : Int) < g := by omega
 constructor
 ·intro hlt
  rcases Int.lt_or_le c 0 with hc | hc
  ·exact hc
  ·have := Int.mul_nonneg (Int.le_of_lt hg') hc; omega
 ·intro hc
  exact Int.mul_neg_of_pos_of_neg hg' hc
theorem gcd_lt {z : Int} {n m : Nat} (h : n ≠ 0) (hn : n < Bp m) : Nat.gcd z.natAbs n < Bp m := Nat.lt_of_le_of_lt (Nat.le_of_dvd (by omega) (Nat.gcd_dvd_right _ _)) hn
theorem gcd_ne {z : Int} {n : Nat} (h : n ≠ 0) : Nat.gcd z.natAbs n ≠ 0 := fun e => h (Nat.eq_zero_of_gcd_eq_zero_right e)
theorem qOf_to (sa : S m a) (sb : S m b) (hm : m ≤ 800000) (h0 : V b ≠ 0) (hq : mkRat (vz x a) (V b) = q) : Ev (fun k => rat_Of.f k x a b) (qr q) := by
 unfold rat_Of.f
 refine Ev.bind (wTrim_to sa (by omega) rfl) (Ev.bind (Trim_to sb (by omega) rfl) ?_)
 refine Ev.ifn (by rw [len0]; exact h0) ?_
 have sz : S m (cz (vz x a)).2 := S_cz (S_vz x sa)
 have sb' : S m (L (V b)) := S_L sb.v
 have ez : V (cz (vz x a)).2 = (vz x a).natAbs := by rw [cz2, V_L]
 refine Ev.bind (Gcd_to sz sb' hm (n := Nat.gcd (vz x a).natAbs (V b)) (by rw [ez, V_L])) ?_
 have sg : S m (L (Nat.gcd (vz x a).natAbs (V b))) := S_L (gcd_lt h0 sb.v)
 have g0 : V (L (Nat.gcd (vz x a).natAbs (V b))) ≠ 0 := by rw [V_L]; exact gcd_ne h0
 refine Ev.bind (Rem_to sz sg hm hm g0 (q := q.num.natAbs) (by rw [ez, V_L, ← hq, mk_num h0]) rfl) ?_
 refine Ev.bind (Rem_to sb' sg hm hm g0 (q := q.den) (by rw [V_L, V_L, ← hq, mk_den h0]) rfl) ?_
 by_cases h1 : q.num.natAbs < Bp 64
 ·refine Ev.ifn (fun e => len_gt.1 e h1) ?_
  by_cases h2 : q.den < Bp 64
  ·refine Ev.ifn (fun e => len_gt.1 e h2) (Ev.const ?_)
   rw [qr_yes ⟨h1, h2⟩, cz1, cz1, mk_neg h0, hq]; rfl
  ·exact Ev.ifp (len_gt.2 h2) (Ev.const (by rw [qr_no (fun e => h2 e.2)]))
 ·exact Ev.ifp (len_gt.2 h1) (Ev.const (by rw [qr_no (fun e => h1 e.1)]))
theorem last_zero {l : List Int} (hw : W l) (h0 : l.length ≠ 0) : l.getD (l.length - 1) 0 = 0 ↔ ¬ l = L (V l) := by
 constructor
 ·intro h e
  have hv : V l ≠ 0 := fun z => h0 (by rw [e, z, L_zero]; rfl)
  have := L_last hv
  rw [← e] at this
  exact this h
 ·intro h
  by_cases hu : U l = l.length
  ·exact absurd (by have := take_U hw; rw [hu, List.take_length] at this; exact this) h
  ·have := U_le hw
   exact tail_zero hw (by omega)
theorem trimmed_to (s : S m l) (hm : m ≤ 1000000) : rat_trimmed.f l = some (decide (l = L (V l))) := by
 unfold rat_trimmed.f
 by_cases h0 : l.length = 0
 ·obtain rfl := List.eq_nil_of_length_eq_zero h0
  rw [if_pos (by decide), V_nil, L_zero]; rfl
 ·have hl := s.2
  rw [if_neg (by omega), w64_pred (by omega) (by omega), if_pos (by omega), if_pos (by omega), rd_nat]
  have := last_zero s.1 h0
  by_cases e : l = L (V l)
  ·rw [decide_eq_true e]
   have : l.getD (l.length - 1) 0 ≠ 0 := fun z => this.1 z e
   rw [bne_iff_ne.2 this]
  ·rw [decide_eq_false e]
   have := this.2 e
   rw [this]; rfl
def gq (x : Bool) (a b : List Int) : Bool :=
 decide (a = L (V a)) && decide (b = L (V b)) && decide (V b ≠ 0) && decide (V a < Bp 64) && decide (V b < Bp 64) && !(x && decide (V a = 0)) && decide (Nat.gcd (V a) (V b) = 1)
theorem gq_spec (h : gq x a b = true) : ∃ q : Rat, Qs q ∧ x = (cz q.num).1 ∧ a = (cz q.num).2 ∧ b = L q.den := by
 simp only [gq, Bool.and_eq_true, decide_eq_true_eq, Bool.not_eq_true', Bool.and_eq_false_iff, decide_eq_false_iff_not] at h
 obtain ⟨⟨⟨⟨⟨⟨h1, h2⟩, h3⟩, h4⟩, h5⟩, h6⟩, h7⟩ := h
 have e : (vz x a).natAbs = V a := vz_abs x a
 refine ⟨⟨vz x a, V b, h3, show Nat.gcd (vz x a).natAbs (V b) = 1 by rw [e]; exact h7⟩, ⟨show (vz x a).natAbs < Bp 64 by rw [e]; exact h4, h5⟩, ?_, ?_, h2⟩
 ·show x = decide (vz x a < 0)
  cases x with
  | false => exact (decide_eq_false (by rw [vz_f]; omega)).symm
  | true =>
   have : V a ≠ 0 := by
    rcases h6 with h6 | h6
    ·cases h6
    ·exact h6
   exact (decide_eq_true (by rw [vz_t]; omega)).symm
 ·show a = L (vz x a).natAbs
  rw [e]; exact h1
theorem gq_cq (h : Qs q) : gq (cz q.num).1 (cz q.num).2 (L q.den) = true := by
 have h1 := q.reduced
 have h2 := q.den_nz
 have h3 : q.num.natAbs.gcd q.den = 1 := h1
 simp only [gq, cz1, cz2, V_L, Bool.and_eq_true, decide_eq_true_eq, Bool.not_eq_true', Bool.and_eq_false_iff, decide_eq_false_iff_not, h.1, h.2, h3]
 refine ⟨⟨⟨⟨⟨⟨trivial, trivial⟩, h2⟩, trivial⟩, trivial⟩, ?_⟩, trivial⟩
 by_cases z : q.num < 0
 ·right; omega
 ·left; exact z
theorem gcd_one_cmp (n : Nat) : (cmpI n 1 == 0) = decide (n = 1) := by
 rcases cmpI_range n 1 with ⟨h, h'⟩ | ⟨h, h'⟩ | ⟨h, h'⟩ <;> rw [h]
 ·rw [decide_eq_false (by omega)]; rfl
 ·rw [decide_eq_true (by omega)]; rfl
 ·rw [decide_eq_false (by omega)]; rfl
theorem canon_gt {l : List Int} {n : Nat} (e : l = L (V l)) : (l.length : Int) > n ↔ ¬ V l < Bp n := by
 have := @len_gt (V l) n
 rw [← e] at this
 exact this
theorem canon0 {l : List Int} (e : l = L (V l)) : (l.length : Int) = 0 ↔ V l = 0 := by
 have := @len0 (V l)
 rw [← e] at this
 exact this
theorem qGood_ev (sa : S m a) (sb : S m b) (hm : m ≤ 800000) : Ev (fun k => rat_Good.f k x a b) (gq x a b) := by
 have jt : Ev (fun k => rat_Good.j0 k a b true) false := Ev.succ (by simp only [rat_Good.j0]; exact Ev.ifp trivial (Ev.now _))
 have jf : Ev (fun k => rat_Good.j0 k a b false) (decide (Nat.gcd (V a) (V b) = 1)) := Ev.succ (by
  simp only [rat_Good.j0]
  refine Ev.ifn (by decide) (Ev.bind (Gcd_to sa sb hm rfl) (Ev.bind (Of_to (by omega) (by omega) (n := 1) rfl) ?_))
  have hg : Nat.gcd (V a) (V b) < Bp m ∨ V a = 0 ∧ V b = 0 := by
   by_cases z : V b = 0
   ·by_cases z' : V a = 0
    ·exact .inr ⟨z', z⟩
    ·left; rw [z, Nat.gcd_zero_right]; exact sa.v
   ·left; exact Nat.lt_of_le_of_lt (Nat.le_of_dvd (by omega) (Nat.gcd_dvd_right _ _)) sb.v
  have sg : S (m + 1) (L (Nat.gcd (V a) (V b))) := by
   rcases hg with hg | ⟨e1, e2⟩
   ·exact S_L (lt_up hg (by omega))
   ·rw [e1, e2]; exact S_L Bp_pos
  refine Ev.bind (Cmp_to sg (S_L (one_lt_Bp (by omega))) (by omega) rfl) (Ev.const ?_)
  rw [V_L, V_L, gcd_one_cmp])
 unfold rat_Good.f
 rw [trimmed_to sa (by omega), trimmed_to sb (by omega)]
 simp only [Option.bind_some]
 unfold gq
 by_cases h1 : a = L (V a)
 ·rw [decide_eq_true h1]
  refine Ev.ifp rfl ?_
  by_cases h2 : b = L (V b)
  ·rw [decide_eq_true h2]
   refine Ev.ifp rfl ?_
   by_cases h3 : V b = 0
   ·rw [decide_eq_false (show ¬ V b ≠ 0 by omega)]
    exact Ev.ifp ((canon0 h2).2 h3) (by simpa using jt)
   ·rw [decide_eq_true (show V b ≠ 0 from h3)]
    refine Ev.ifn (fun e => h3 ((canon0 h2).1 e)) ?_
    by_cases h5 : V b < Bp 64
    ·refine Ev.ifn (fun e => (canon_gt h2).1 e h5) ?_
     by_cases h4 : V a < Bp 64
     ·refine Ev.ifn (fun e => (canon_gt h1).1 e h4) ?_
      rw [decide_eq_true h4, decide_eq_true h5]
      cases x with
      | false => exact Ev.ifn (by decide) (by simpa using jf)
      | true =>
       refine Ev.ifp rfl ?_
       have e : ((a.length : Int) == 0) = decide (V a = 0) := by
        rw [Bool.eq_iff_iff, beq_iff_eq, decide_eq_true_eq]; exact canon0 h1
       rw [e]
       by_cases h6 : V a = 0
       ·rw [decide_eq_true h6]; simpa using jt
       ·rw [decide_eq_false h6]; simpa using jf
     ·rw [decide_eq_false h4]
      exact Ev.ifp ((canon_gt h1).2 h4) (by simpa using jt)
    ·rw [decide_eq_false h5]
     exact Ev.ifp ((canon_gt h2).2 h5) (by simpa using jt)
  ·rw [decide_eq_false h2]
   exact Ev.ifn (by decide) (by simpa using jt)
 ·rw [decide_eq_false h1]
  exact Ev.ifn (by decide) (by simpa using jt)
theorem Qs_a (h : Qs q) : S 64 (cz q.num).2 := S_cz h.1
theorem Qs_b (h : Qs q) : S 64 (L q.den) := S_L h.2
theorem qGood_yes (h : Qs q) : Ev (fun k => rat_Good.f k (cz q.num).1 (cz q.num).2 (L q.den)) true := Ev.eq (qGood_ev (Qs_a h) (Qs_b h) (by omega)) (gq_cq h)
end Go.Proofs.YtpchdjdochkjpaaGreatDoor.Lib
set_option linter.unusedVariables false
set_option linter.unusedSimpArgs false
namespace Go.Proofs.YtpchdjdochkjpaaGreatDoor.Lib
open Go.RowKit Go.Proofs.YtpchdjdochkjpaaGreatDoorW.PrintWords Go.Proofs.YtpchdjdochkjpaaGreatDoorW.PrintMore Go.Proofs.YtpchdjdochkjpaaGreatDoor.P
variable {m p : Nat} {a b c d l : List Int} {x y : Bool} {q r : Rat}
theorem keepRat_to (sa : S m a) (sb : S m b) (hm : m ≤ 1000000) (h : (x, a, b) = (y, c, d)) : Ev (fun k => steelyardkeep_Rat.f k x a b y c d) true := by
 have h1 := Prod.mk.inj h
 have h2 := Prod.mk.inj h1.2
 rw [← h1.1, ← h2.1, ← h2.2]
 unfold steelyardkeep_Rat.f
 exact Ev.bind (keepInt_to sa hm rfl) (Ev.ifp rfl (Ev.bind (keep_to sb hm rfl) (Ev.now _)))
theorem keepQ_to (h : Qs q) (e : q = r) : Ev (fun k => steelyardkeep_Rat.f k (cz q.num).1 (cz q.num).2 (L q.den) (cz r.num).1 (cz r.num).2 (L r.den)) true := by
 subst e; exact keepRat_to (Qs_a h) (Qs_b h) (by omega) rfl
theorem rtrimmed_to (s : S m l) (hm : m ≤ 1000000) : steelyardref07_trimmed.f l = some (decide (l = L (V l))) := by
 unfold steelyardref07_trimmed.f
 by_cases h0 : l.length = 0
 ·obtain rfl := List.eq_nil_of_length_eq_zero h0
  rw [if_pos (by decide), V_nil, L_zero]; rfl
 ·have hl := s.2
  rw [if_neg (by omega), w64_pred (by omega) (by omega), if_pos (by omega), if_pos (by omega), rd_nat]
  have := last_zero s.1 h0
  by_cases e : l = L (V l)
  ·rw [decide_eq_true e]
   have : l.getD (l.length - 1) 0 ≠ 0 := fun z => this.1 z e
   rw [bne_iff_ne.2 this]
  ·rw [decide_eq_false e]
   have := this.2 e
   rw [this]; rfl
theorem one_limb (n : Nat) (h1 : ((L n).length : Int) = 1) : (rd (L n) 0 == 1) = decide (n = 1) := by
 have hn : n ≠ 0 := fun e => by rw [e, L_zero] at h1; simp at h1
 have hb : n < 4294967296 := by
  have h : (L n).length ≤ 1 := by omega
  have := lt_of_len h
  simpa using this
 have e0 : rd (L n) 0 = (L n).getD 0 0 := rd_nat _ 0
 rw [e0, L_one hn hb, Bool.eq_iff_iff, beq_iff_eq, decide_eq_true_eq]
 simp
 omega
theorem gcd_one_len {n : Nat} (h : ¬ ((L n).length : Int) = 1) : ¬ n = 1 := fun e => h (by rw [e, L_one (by omega) (by omega)]; rfl)
theorem rGood_ev (sa : S m a) (sb : S m b) (hm : m ≤ 100000) : Ev (fun k => steelyardref07_Good.f k x a b) (gq x a b) := by
 have hg : V b ≠ 0 → Ev (fun k => (steelyardref03_Gcd.f k a b).bind fun t => if (t.length : Int) = 1 then (if 0 < (t.length : Int) then some (rd t 0 == 1) else none) else some false) (decide (Nat.gcd (V a) (V b) = 1)) := fun h3 => by
  refine Ev.bind (rGcd_to sa sb hm rfl) ?_
  by_cases h : ((L (Nat.gcd (V a) (V b))).length : Int) = 1
  ·exact Ev.ifp h (Ev.ifp (by omega) (Ev.const (by rw [one_limb _ h])))
  ·exact Ev.ifn h (Ev.const (by rw [decide_eq_false (gcd_one_len h)]))
 unfold steelyardref07_Good.f
 rw [rtrimmed_to sa (by omega), rtrimmed_to sb (by omega)]
 simp only [Option.bind_some]
 unfold gq
 by_cases h1 : a = L (V a)
 ·rw [decide_eq_true h1]
  refine Ev.ifp rfl ?_
  by_cases h2 : b = L (V b)
  ·rw [decide_eq_true h2]
   refine Ev.ifp rfl ?_
   by_cases h3 : V b = 0
   ·rw [decide_eq_false (show ¬ V b ≠ 0 by omega)]
    exact Ev.ifp ((canon0 h2).2 h3) (by simpa using Ev.now false)
   ·rw [decide_eq_true (show V b ≠ 0 from h3)]
    refine Ev.ifn (fun e => h3 ((canon0 h2).1 e)) ?_
    have tail : Ev (fun k => if (a.length : Int) > 64 then some false else if (b.length : Int) > 64 then some false else (steelyardref03_Gcd.f k a b).bind fun t => if (t.length : Int) = 1 then (if 0 < (t.length : Int) then some (rd t 0 == 1) else none) else some false) (decide (V a < Bp 64) && decide (V b < Bp 64) && decide (Nat.gcd (V a) (V b) = 1)) := by
     by_cases h4 : V a < Bp 64
     ·refine Ev.ifn (fun e => (canon_gt h1).1 e h4) ?_
      by_cases h5 : V b < Bp 64
      ·refine Ev.ifn (fun e => (canon_gt h2).1 e h5) ?_
       rw [decide_eq_true h4, decide_eq_true h5]
       simpa using hg h3
      ·rw [decide_eq_false h5]
       exact Ev.ifp ((canon_gt h2).2 h5) (by simpa using Ev.now false)
     ·rw [decide_eq_false h4]
      exact Ev.ifp ((canon_gt h1).2 h4) (by simpa using Ev.now false)
    cases x with
    | false => exact Ev.ifn (by decide) (by simpa using tail)
    | true =>
     refine Ev.ifp rfl ?_
     by_cases h6 : V a = 0
     ·exact Ev.ifp ((canon0 h1).2 h6) (by rw [decide_eq_true h6]; simpa using Ev.now false)
     ·refine Ev.ifn (fun e => h6 ((canon0 h1).1 e)) ?_
      rw [decide_eq_false h6]
      simpa using tail
  ·rw [decide_eq_false h2]
   exact Ev.ifn (by decide) (by simpa using Ev.now false)
 ·rw [decide_eq_false h1]
  exact Ev.ifn (by decide) (by simpa using Ev.now false)
theorem rGood_yes (h : Qs q) : Ev (fun k => steelyardref07_Good.f k (cz q.num).1 (cz q.num).2 (L q.den)) true := Ev.eq (rGood_ev (Qs_a h) (Qs_b h) (by omega)) (gq_cq h)
theorem rWhole_to {v : Int} (h0 : -9223372036854775808 ≤ v) (h1 : v ≤ 9223372036854775807) : Ev (fun k => steelyardref07_Whole.f k v) ((cz v).1, (cz v).2, L 1) := by
 unfold steelyardref07_Whole.f
 exact Ev.bind (rZOf_to h0 h1) (Ev.const (by rw [L_one (by omega) (by omega)]; rfl))
theorem cross_to (h : Qs q) (k : Qs r) : Ev (fun n => rat_cross.f n (cz q.num).1 (cz q.num).2 (L q.den) (cz r.num).1 (cz r.num).2 (L r.den)) (cz (q.num * r.den)) := by
 unfold rat_cross.f
 exact Ev.bind (wMul_to (Qs_a h) (Qs_b k) (by omega) (z := q.num * r.den) (by rw [vz_cz, vz_f, V_L])) (Ev.now _)
theorem na_cross (h : Qs q) (k : Qs r) : (q.num * (r.den : Int)).natAbs < Bp 128 := na_mul h.1 (w := (r.den : Int)) (p := 64) (by rw [Int.natAbs_natCast]; exact k.2) (by omega)
theorem den_mul_ne (q r : Rat) : q.den * r.den ≠ 0 := Nat.mul_ne_zero q.den_nz r.den_nz
theorem qMul_to (h : Qs q) (k : Qs r) {s : Rat} (e : q * r = s) : Ev (fun n => rat_Mul.f n (cz q.num).1 (cz q.num).2 (L q.den) (cz r.num).1 (cz r.num).2 (L r.den)) (qr s) := by
 unfold rat_Mul.f
 refine Ev.bind (qGood_yes h) (Ev.ifp rfl (Ev.bind (qGood_yes k) (Ev.succ ?_)))
 simp only [rat_Mul.j0]
 refine Ev.ifn (by decide) (Ev.bind (wMul_to (Qs_a h) (Qs_a k) (by omega) (by rw [vz_cz, vz_cz])) (Ev.bind (Mul_to (Qs_b h) (Qs_b k) (by omega) rfl) ?_))
 refine Ev.bind (qOf_to (m := 129) (S_cz (na_mul h.1 k.1 (by omega))) (S_L (by rw [V_L, V_L]; exact lt_mul h.2 k.2 (by omega))) (by omega) (by rw [V_L, V_L, V_L]; exact den_mul_ne q r) (q := s) (by rw [vz_cz, V_L, V_L, V_L, ← e, Rat.mul_def'])) (Ev.now _)
theorem div_def' (q r : Rat) (h : r.num ≠ 0) : q / r = mkRat (q.num * r.den * (if r.num < 0 then -1 else 1)) (q.den * r.num.natAbs) := by
 have e : r = (r.num : Rat) / (r.den : Rat) := by
  have := r.num_divInt_den
  rw [Rat.divInt_eq_div] at this
  exact this.symm
 have hq : q = (q.num : Rat) / (q.den : Rat) := by
  have := q.num_divInt_den
  rw [Rat.divInt_eq_div] at this
  exact this.symm
 have hd : (r.den : Rat) ≠ 0 := fun z => r.den_nz (Rat.natCast_eq_zero_iff.1 z)
 have hd' : (q.den : Rat) ≠ 0 := fun z => q.den_nz (Rat.natCast_eq_zero_iff.1 z)
 have hn : (r.num : Rat) ≠ 0 := fun z => h (Rat.intCast_eq_zero_iff.1 z)
 rw [← Rat.divInt_ofNat, Rat.divInt_eq_div]
 have ha : ((r.num.natAbs : Int)) = r.num * (if r.num < 0 then -1 else 1) := by split <;> omega
 generalize (if r.num < 0 then (-1 : Int) else 1) = s at ha ⊢
 have hs : ((r.num.natAbs : Int) : Rat) = (r.num : Rat) * (s : Rat) := by rw [ha, Rat.intCast_mul]
 have hs0 : ((r.num.natAbs : Int) : Rat) ≠ 0 := fun z => by
  have := Rat.intCast_eq_zero_iff.1 z
  omega
 have hsz : (s : Rat) ≠ 0 := fun z => hs0 (by rw [hs, z]; exact Rat.mul_zero _)
 have e1 : (((q.den * r.num.natAbs : Nat) : Int) : Rat) = (q.den : Rat) * ((r.num : Rat) * (s : Rat)) := by rw [← hs]; push_cast; rfl
 have e2 : ((q.num * (r.den : Int) * s : Int) : Rat) = (q.num : Rat) * (r.den : Rat) * (s : Rat) := by rw [Rat.intCast_mul, Rat.intCast_mul]; rfl
 rw [e1, e2]
 generalize (q.num : Rat) = A at *
 generalize (q.den : Rat) = B at *
 generalize (r.num : Rat) = C at *
 generalize (r.den : Rat) = D at *
 generalize (s : Rat) = E at *
 rw [hq, e]
 grind
theorem qDiv_to (h : Qs q) (k : Qs r) (h0 : r.num ≠ 0) {s : Rat} (e : q / r = s) : Ev (fun n => rat_Div.f n (cz q.num).1 (cz q.num).2 (L q.den) (cz r.num).1 (cz r.num).2 (L r.den)) (qr s) := by
 unfold rat_Div.f
 refine Ev.bind (qGood_yes h) (Ev.ifp rfl (Ev.bind (qGood_yes k) (Ev.succ ?_)))
 simp only [rat_Div.j0]
 refine Ev.ifn (by decide) (Ev.bind (cross_to h k) (Ev.bind (Mul_to (Qs_b h) (Qs_a k) (by omega) rfl) ?_))
 have sc : S 129 (cz (q.num * (r.den : Int))).2 := (S_cz (na_cross h k)).up (by omega)
 refine Ev.bind (qOf_to (m := 129) sc (S_L (by rw [V_L, cz2, V_L]; exact lt_mul h.2 k.1 (by omega))) (by omega) (by rw [V_L, V_L, cz2, V_L]; exact Nat.mul_ne_zero q.den_nz (by omega)) (q := s) ?_) (Ev.now _)
 rw [V_L, V_L, cz2, cz2, V_L, ← e, div_def' q r h0]
 congr 1
 rw [cz1, cz1, vz_if]
 generalize q.num * (r.den : Int) = z
 by_cases c : z < 0
 ·by_cases c' : r.num < 0
  ·rw [decide_eq_true c, decide_eq_true c']; simp [c']; omega
  ·rw [decide_eq_true c, decide_eq_false c']; simp [c']; omega
 ·by_cases c' : r.num < 0
  ·rw [decide_eq_false c, decide_eq_true c']; simp [c']; omega
  ·rw [decide_eq_false c, decide_eq_false c']; simp [c']; omega
theorem qWhole_to {v : Int} (h0 : -9223372036854775808 ≤ v) (h1 : v ≤ 9223372036854775807) : Ev (fun k => rat_Whole.f k v) ((cz v).1, (cz v).2, L 1) := by
 unfold rat_Whole.f
 exact Ev.bind (wOf_to h0 h1) (Ev.bind (Of_to (by omega) (by omega) (n := 1) rfl) (Ev.now _))
end Go.Proofs.YtpchdjdochkjpaaGreatDoor.Lib
set_option linter.unusedVariables false
set_option linter.unusedSimpArgs false
namespace Go.Proofs.YtpchdjdochkjpaaGreatDoor.Lib
open Go.RowKit Go.Proofs.YtpchdjdochkjpaaGreatDoorW.PrintWords Go.Proofs.YtpchdjdochkjpaaGreatDoorW.PrintMore Go.Proofs.YtpchdjdochkjpaaGreatDoor.P
variable {m p : Nat} {a b c d l : List Int} {x y : Bool} {q r : Rat}
def cmpQ (q r : Rat) : Int := cmpZ (q.num * r.den) (r.num * q.den)
theorem cmpQ_cases (q r : Rat) : (q < r ∧ cmpQ q r = -1) ∨ (q = r ∧ cmpQ q r = 0) ∨ (r < q ∧ cmpQ q r = 1) := by
 unfold cmpQ
 rcases cmpZ_cases (q.num * r.den) (r.num * q.den) with ⟨h, e⟩ | ⟨h, e⟩ | ⟨h, e⟩
 ·exact .inl ⟨(Rat.lt_iff q r).2 h, e⟩
 ·exact .inr (.inl ⟨Rat.eq_iff_mul_eq_mul.2 h, e⟩)
 ·exact .inr (.inr ⟨(Rat.lt_iff r q).2 h, e⟩)
theorem cmpQ_pos (q r : Rat) : cmpQ q r > 0 ↔ r < q := by
 rcases cmpQ_cases q r with ⟨h, e⟩ | ⟨h, e⟩ | ⟨h, e⟩
 ·rw [e]; exact ⟨fun z => by omega, fun z => absurd (Rat.le_of_lt z) (Rat.not_le.2 h)⟩
 ·rw [e]; exact ⟨fun z => by omega, fun z => absurd h.symm (Rat.ne_of_lt z)⟩
 ·rw [e]; exact ⟨fun _ => h, fun _ => by omega⟩
theorem cmpQ_0 (q : Rat) : cmpQ q 0 = cmpZ q.num 0 := by
 unfold cmpQ
 rw [show (0 : Rat).num = 0 from rfl, show (0 : Rat).den = 1 from rfl, Int.zero_mul]
 simp
theorem qSign_to (h : Qs q) : Ev (fun n => rat_Sign.f n (cz q.num).1 (cz q.num).2 (L q.den)) (cmpQ q 0) := by
 unfold rat_Sign.f
 refine Ev.bind (qGood_yes h) (Ev.ifp rfl (Ev.bind (wCmp_to (Qs_a h) (S_nil (m := 64)) (by omega) (c := cmpQ q 0) (by rw [vz_cz, vz_f, V_nil, cmpQ_0]; rfl)) (Ev.now _)))
theorem Qs_neg (h : Qs q) : Qs (-q) := ⟨by rw [Rat.neg_num]; exact na_neg h.1, h.2⟩
theorem cpy_all (l : List Int) : cpy (List.replicate l.length 0) 0 l = l := by rw [cpy_take _ _ (Nat.le_refl _), List.take_length]
theorem qNeg_to (h : Qs q) : Ev (fun n => rat_Neg.f n (cz q.num).1 (cz q.num).2 (L q.den)) ((cz (-q).num).1, (cz (-q).num).2, L (-q).den) := by
 have hl := (Qs_b h).2
 unfold rat_Neg.f
 refine Ev.bind (qGood_yes h) (Ev.ifp rfl ?_)
 simp only [Option.bind_some, Int.toNat_natCast, cpy_all]
 first
  | exact Ev.ifp (by omega) (Ev.ifp (by omega) (Ev.bind (wNeg_to (Qs_a h) (by omega) (z := (-q).num) (by rw [vz_cz]; rfl)) (Ev.now _)))
  | exact Ev.bind (wNeg_to (Qs_a h) (by omega) (z := (-q).num) (by rw [vz_cz]; rfl)) (Ev.ifp (by omega) (Ev.ifp (by omega) (Ev.now _)))
theorem pos_to (s : S m l) (hm : m ≤ 1000000) : Ev (fun k => steelyardref07_pos.f k l) (cz ((V l : Nat) : Int)) := by
 unfold steelyardref07_pos.f
 exact Ev.bind (rMake_to s hm (z := ((V l : Nat) : Int)) (vz_f _)) (Ev.now _)
theorem rLess_to (sa : S m a) (sb : S m b) (sc : S p c) (sd : S p d) (hm : m + p < 90000) : Ev (fun k => steelyardref07_Less.f k x a b y c d) (cmpZ (vz x a * (V d : Int)) (vz y c * (V b : Int))) := by
 unfold steelyardref07_Less.f
 have z1 : (((V d : Nat) : Int)).natAbs < Bp p := by rw [Int.natAbs_natCast]; exact sd.v
 have z2 : (((V b : Nat) : Int)).natAbs < Bp m := by rw [Int.natAbs_natCast]; exact sb.v
 have b1 : (vz x a * (V d : Int)).natAbs < Bp (m + p) := na_mul (S_vz x sa) z1 (Nat.le_refl _)
 have b2 : (vz y c * (V b : Int)).natAbs < Bp (m + p) := na_mul (S_vz y sc) z2 (by omega)
 refine Ev.bind (pos_to sd (by omega)) (Ev.bind (rZMul_to sa (S_cz z1) (by omega) (z := vz x a * (V d : Int)) (by rw [vz_cz])) ?_)
 refine Ev.bind (pos_to sb (by omega)) (Ev.bind (rZMul_to sc (S_cz z2) (by omega) (z := vz y c * (V b : Int)) (by rw [vz_cz])) ?_)
 exact Ev.bind (rZCmp_to (S_cz b1) (S_cz b2) (by omega) (by rw [vz_cz, vz_cz])) (Ev.now _)
def Qm (m : Nat) (q : Rat) : Prop := q.num.natAbs < Bp m ∧ q.den < Bp m
theorem Qm_a (h : Qm m q) : S m (cz q.num).2 := S_cz h.1
theorem Qm_b (h : Qm m q) : S m (L q.den) := S_L h.2
theorem Qs_m (h : Qs q) : Qm 64 q := h
theorem Qm_mk {z : Int} {n : Nat} (h0 : n ≠ 0) (h : z.natAbs < Bp m) (h1 : n < Bp m) : Qm m (mkRat z n) := by
 refine ⟨?_, ?_⟩
 ·rw [mk_num h0]; exact Nat.lt_of_le_of_lt (Nat.div_le_self _ _) h
 ·rw [mk_den h0]; exact Nat.lt_of_le_of_lt (Nat.div_le_self _ _) h1
theorem rLessQ_to (h : Qm m q) (k : Qm p r) (hm : m + p < 90000) : Ev (fun n => steelyardref07_Less.f n (cz q.num).1 (cz q.num).2 (L q.den) (cz r.num).1 (cz r.num).2 (L r.den)) (cmpQ q r) := by
 have := rLess_to (x := (cz q.num).1) (y := (cz r.num).1) (Qm_a h) (Qm_b h) (Qm_a k) (Qm_b k) hm
 rw [vz_cz, vz_cz, V_L, V_L] at this
 exact this
end Go.Proofs.YtpchdjdochkjpaaGreatDoor.Lib
set_option linter.unusedVariables false
set_option linter.unusedSimpArgs false
namespace Go.Proofs.YtpchdjdochkjpaaGreatDoor.Lib
open Go.RowKit Go.Proofs.YtpchdjdochkjpaaGreatDoorW.PrintWords Go.Proofs.YtpchdjdochkjpaaGreatDoorW.PrintMore Go.Proofs.YtpchdjdochkjpaaGreatDoor.P
def Gd (d : Dm) : Prop := (-200 ≤ d.d0 ∧ d.d0 ≤ 200) ∧ (-200 ≤ d.d1 ∧ d.d1 ≤ 200) ∧ (-200 ≤ d.d2 ∧ d.d2 ≤ 200) ∧ (-200 ≤ d.d3 ∧ d.d3 ≤ 200) ∧ (-200 ≤ d.d4 ∧ d.d4 ≤ 200) ∧ (-200 ≤ d.d5 ∧ d.d5 ≤ 200) ∧ (-200 ≤ d.d6 ∧ d.d6 ≤ 200)
instance (d : Dm) : Decidable (Gd d) := by unfold Gd; infer_instance
def z7 : Dm := ⟨0, 0, 0, 0, 0, 0, 0⟩
def dmul (a b : Dm) : Dm := ⟨a.d0 + b.d0, a.d1 + b.d1, a.d2 + b.d2, a.d3 + b.d3, a.d4 + b.d4, a.d5 + b.d5, a.d6 + b.d6⟩
def ddiv (a b : Dm) : Dm := ⟨a.d0 - b.d0, a.d1 - b.d1, a.d2 - b.d2, a.d3 - b.d3, a.d4 - b.d4, a.d5 - b.d5, a.d6 - b.d6⟩
def dpow (a : Dm) (n : Int) : Dm := ⟨a.d0 * n, a.d1 * n, a.d2 * n, a.d3 * n, a.d4 * n, a.d5 * n, a.d6 * n⟩
def dr (d : Dm) : Dm × Int := if Gd d then (d, 0) else (z7, 2)
theorem dr_yes {d : Dm} (h : Gd d) : dr d = (d, 0) := if_pos h
theorem dr_no {d : Dm} (h : ¬ Gd d) : dr d = (z7, 2) := if_neg h
theorem sF {p : Prop} [Decidable p] (h : ¬ p) : some false = some (decide p) := by rw [decide_eq_false h]
theorem sT {p : Prop} [Decidable p] (h : p) : some true = some (decide p) := by rw [decide_eq_true h]
theorem dGood_eq (d : Dm) : dim_Good.f d = some (decide (Gd d)) := by
 unfold dim_Good.f
 by_cases c0 : d.d0 < (-200)
 ·rw [if_pos c0]; exact sF (p := Gd d) (by unfold Gd; omega)
 rw [if_neg c0]
 by_cases c1 : d.d0 > 200
 ·rw [if_pos c1]; exact sF (p := Gd d) (by unfold Gd; omega)
 rw [if_neg c1]
 by_cases c2 : d.d1 < (-200)
 ·rw [if_pos c2]; exact sF (p := Gd d) (by unfold Gd; omega)
 rw [if_neg c2]
 by_cases c3 : d.d1 > 200
 ·rw [if_pos c3]; exact sF (p := Gd d) (by unfold Gd; omega)
 rw [if_neg c3]
 by_cases c4 : d.d2 < (-200)
 ·rw [if_pos c4]; exact sF (p := Gd d) (by unfold Gd; omega)
 rw [if_neg c4]
 by_cases c5 : d.d2 > 200
 ·rw [if_pos c5]; exact sF (p := Gd d) (by unfold Gd; omega)
 rw [if_neg c5]
 by_cases c6 : d.d3 < (-200)
 ·rw [if_pos c6]; exact sF (p := Gd d) (by unfold Gd; omega)
 rw [if_neg c6]
 by_cases c7 : d.d3 > 200
 ·rw [if_pos c7]; exact sF (p := Gd d) (by unfold Gd; omega)
 rw [if_neg c7]
 by_cases c8 : d.d4 < (-200)
 ·rw [if_pos c8]; exact sF (p := Gd d) (by unfold Gd; omega)
 rw [if_neg c8]
 by_cases c9 : d.d4 > 200
 ·rw [if_pos c9]; exact sF (p := Gd d) (by unfold Gd; omega)
 rw [if_neg c9]
 by_cases c10 : d.d5 < (-200)
 ·rw [if_pos c10]; exact sF (p := Gd d) (by unfold Gd; omega)
 rw [if_neg c10]
 by_cases c11 : d.d5 > 200
 ·rw [if_pos c11]; exact sF (p := Gd d) (by unfold Gd; omega)
 rw [if_neg c11]
 by_cases c12 : d.d6 < (-200)
 ·rw [if_pos c12]; exact sF (p := Gd d) (by unfold Gd; omega)
 rw [if_neg c12]
 by_cases c13 : d.d6 > 200
 ·rw [if_pos c13]; exact sF (p := Gd d) (by unfold Gd; omega)
 rw [if_neg c13]
 exact sT (p := Gd d) (by unfold Gd; omega)
theorem dGood_yes {d : Dm} (h : Gd d) : dim_Good.f d = some true := by rw [dGood_eq, decide_eq_true h]
theorem dGood_no {d : Dm} (h : ¬ Gd d) : dim_Good.f d = some false := by rw [dGood_eq, decide_eq_false h]
theorem dTold_eq (d : Dm) : dim_told.f d = some (dr d) := by
 unfold dim_told.f
 by_cases h : Gd d
 ·rw [dGood_yes h, dr_yes h]; rfl
 ·rw [dGood_no h, dr_no h]; rfl
theorem w200 {x : Int} (h : -200000 ≤ x ∧ x ≤ 200000) : wrap64 x = x := w64 (by omega) (by omega)
theorem dMul_eq {a b : Dm} (ha : Gd a) (hb : Gd b) : dim_Mul.f a b = some (dr (dmul a b)) := by
 unfold dim_Mul.f
 rw [dGood_yes ha, dGood_yes hb]
 obtain ⟨a0, a1, a2, a3, a4, a5, a6⟩ := ha
 obtain ⟨b0, b1, b2, b3, b4, b5, b6⟩ := hb
 simp only [Option.bind_some, if_true]
 rw [w200 (x := a.d0 + b.d0) (by omega), w200 (x := a.d1 + b.d1) (by omega), w200 (x := a.d2 + b.d2) (by omega), w200 (x := a.d3 + b.d3) (by omega), w200 (x := a.d4 + b.d4) (by omega), w200 (x := a.d5 + b.d5) (by omega), w200 (x := a.d6 + b.d6) (by omega), dTold_eq]
 rfl
theorem dDiv_eq {a b : Dm} (ha : Gd a) (hb : Gd b) : dim_Div.f a b = some (dr (ddiv a b)) := by
 unfold dim_Div.f
 rw [dGood_yes ha, dGood_yes hb]
 obtain ⟨a0, a1, a2, a3, a4, a5, a6⟩ := ha
 obtain ⟨b0, b1, b2, b3, b4, b5, b6⟩ := hb
 simp only [Option.bind_some, if_true]
 rw [w200 (x := a.d0 - b.d0) (by omega), w200 (x := a.d1 - b.d1) (by omega), w200 (x := a.d2 - b.d2) (by omega), w200 (x := a.d3 - b.d3) (by omega), w200 (x := a.d4 - b.d4) (by omega), w200 (x := a.d5 - b.d5) (by omega), w200 (x := a.d6 - b.d6) (by omega), dTold_eq]
 rfl
theorem mul_200 {x n : Int} (hx : -200 ≤ x ∧ x ≤ 200) (hn : -200 ≤ n ∧ n ≤ 200) : -200000 ≤ x * n ∧ x * n ≤ 200000 := by
 have h := Int.natAbs_mul x n
 have h2 : x.natAbs * n.natAbs ≤ 200 * 200 := Nat.mul_le_mul (by omega) (by omega)
 omega
theorem dPow_eq {a : Dm} (ha : Gd a) {n : Int} (hn : -200 ≤ n ∧ n ≤ 200) : dim_Pow.f a n = some (dr (dpow a n)) := by
 unfold dim_Pow.f
 rw [dGood_yes ha]
 have ha' := ha
 obtain ⟨a0, a1, a2, a3, a4, a5, a6⟩ := ha
 simp only [Option.bind_some, if_true]
 split
 ·rename_i h
  simp only [Bool.and_eq_true, decide_eq_true_eq] at h
  obtain ⟨h0, h1, h2, h3, h4, h5, h6⟩ := h
  have e : dpow a n = a := by
   unfold dpow; cases a
   simp only [] at h0 h1 h2 h3 h4 h5 h6
   subst h0 h1 h2 h3 h4 h5 h6
   simp only [Int.zero_mul]
  rw [e, dr_yes ha']
 ·rw [if_neg (by omega), if_neg (by omega)]
  rw [w200 (mul_200 a0 hn), w200 (mul_200 a1 hn), w200 (mul_200 a2 hn), w200 (mul_200 a3 hn), w200 (mul_200 a4 hn), w200 (mul_200 a5 hn), w200 (mul_200 a6 hn), dTold_eq]
  rfl
theorem Dm.ext' {a b : Dm} (h0 : a.d0 = b.d0) (h1 : a.d1 = b.d1) (h2 : a.d2 = b.d2) (h3 : a.d3 = b.d3) (h4 : a.d4 = b.d4) (h5 : a.d5 = b.d5) (h6 : a.d6 = b.d6) : a = b := by
 cases a; cases b
 simp only [] at h0 h1 h2 h3 h4 h5 h6
 subst h0 h1 h2 h3 h4 h5 h6
 rfl
theorem dmul_z7 (d : Dm) : dmul z7 d = d := by apply Dm.ext' <;> simp [dmul, z7]
theorem dpow_one (d : Dm) : dpow d 1 = d := by apply Dm.ext' <;> simp [dpow]
theorem ddiv_self (d : Dm) : ddiv d d = z7 := by apply Dm.ext' <;> simp [ddiv, z7]
theorem dmul_neg (d : Dm) (n : Int) : dmul (dpow d n) (dpow d (-n)) = z7 := by apply Dm.ext' <;> simp [dmul, dpow, z7, Int.mul_neg] <;> omega
theorem dmul_dmul (a b c : Dm) : dmul (dmul a b) c = dmul a (dmul b c) := by apply Dm.ext' <;> simp only [dmul] <;> omega
theorem dmul_ddiv (a b c : Dm) : ddiv (dmul a b) c = dmul a (ddiv b c) := by apply Dm.ext' <;> simp only [dmul, ddiv] <;> omega
end Go.Proofs.YtpchdjdochkjpaaGreatDoor.Lib
set_option linter.unusedVariables false
set_option linter.unusedSimpArgs false
namespace Go.Proofs.YtpchdjdochkjpaaGreatDoor.Lib
open Go.RowKit Go.Proofs.YtpchdjdochkjpaaGreatDoorW.PrintWords Go.Proofs.YtpchdjdochkjpaaGreatDoorW.PrintMore Go.Proofs.YtpchdjdochkjpaaGreatDoor.P
def hd (u : List Int) : Int := u.getD 0 42
def ltr (x : Int) : Bool := (decide (97 ≤ x) && decide (x ≤ 122)) || (decide (65 ≤ x) && decide (x ≤ 90))
def dgt (x : Int) : Bool := decide (48 ≤ x) && decide (x ≤ 57)
def ano (x : Int) : Bool := ltr x || dgt x || decide (x = 95)
def sk : List Int → List Int
 | [] => []
 | x :: l => if x = 32 then sk l else x :: l
def nr : Nat → List Int → Nat
 | 0, _ => 0
 | _ + 1, [] => 0
 | n + 1, x :: l => if ano x then nr n l + 1 else 0
def nm : List Int → Nat
 | [] => 0
 | x :: l => if ltr x then nr 15 l + 1 else 0
def xd : Nat → Int → List Int → Int × List Int
 | 0, d, l => (d, l)
 | _ + 1, d, [] => (d, [])
 | n + 1, d, x :: l => if dgt x then xd n (10 * d + (x - 48)) l else (d, x :: l)
def exs (m : Bool) (w : List Int) : List Int ⊕ (Int × List Int) :=
 if (xd 3 0 w).2.length = w.length ∨ dgt (hd (xd 3 0 w).2) = true then .inl (xd 3 0 w).2 else .inr (if m then -(xd 3 0 w).1 else (xd 3 0 w).1, (xd 3 0 w).2)
def ex (u : List Int) : List Int ⊕ (Int × List Int) :=
 if hd (sk u) = 94 then (if hd (sk (sk u).tail) = 45 then exs true (sk (sk (sk u).tail).tail) else exs false (sk (sk u).tail)) else .inr (1, sk u)
def pw (q : Rat) (n : Int) : Rat := if n < 0 then (1 / q) ^ n.natAbs else q ^ n.natAbs
abbrev Tv := List Int → Option (Rat × Dm)
inductive Pc where
 | bad (e : Int) (a : List Int)
 | one (r : List Int)
 | un (a r : List Int) (q : Rat) (d : Dm)
def Fit (q : Rat) (d : Dm) : Prop := Qs q ∧ Gd d
instance (q : Rat) (d : Dm) : Decidable (Fit q d) := by unfold Fit; infer_instance
def Pw (n : Int) (q : Rat) (d : Dm) : Prop := (-64 ≤ n ∧ n ≤ 64) ∧ Fit (pw q n) (dpow d n)
instance (n : Int) (q : Rat) (d : Dm) : Decidable (Pw n q d) := by unfold Pw; infer_instance
def pcx (u : List Int) (x : Rat × Dm) : List Int ⊕ (Int × List Int) → Pc
 | .inl a => .bad 12 a
 | .inr y => if Pw y.1 x.1 x.2 then .un u y.2 (pw x.1 y.1) (dpow x.2 y.1) else .bad 2 u
def pcu (u r : List Int) : Option (Rat × Dm) → Pc
 | none => .bad 15 u
 | some x => pcx u x (ex r)
def pc (T : Tv) (u : List Int) : Pc :=
 if hd u = 49 then .one u.tail else if nm u = 0 then .bad 12 u else if ano (hd (u.drop (nm u))) = true then .bad 12 (u.drop (nm u)) else pcu u (u.drop (nm u)) (T (u.take (nm u)))
inductive Out where
 | bad (e : Int) (a : List Int)
 | ok (q : Rat) (d : Dm)
def nx (r : List Int) (q : Rat) (d : Dm) : Out ⊕ (List Int × Rat × Dm × Bool) :=
 match sk r with
 | [] => .inl (.ok q d)
 | x :: w => if x = 42 then .inr (w, q, d, false) else if x = 47 then .inr (w, q, d, true) else .inl (.bad 12 (x :: w))
def qop (o : Bool) (q r : Rat) : Rat := if o then q / r else q * r
def dop (o : Bool) (a b : Dm) : Dm := if o then ddiv a b else dmul a b
def stp (q : Rat) (d : Dm) (o : Bool) : Pc → Out ⊕ (List Int × Rat × Dm × Bool)
 | .bad e a => .inl (.bad e a)
 | .one r => nx r q d
 | .un a r q' d' => if Fit (qop o q q') (dop o d d') then nx r (qop o q q') (dop o d d') else .inl (.bad 2 a)
def st (T : Tv) (u : List Int) (q : Rat) (d : Dm) (o : Bool) : Out ⊕ (List Int × Rat × Dm × Bool) := stp q d o (pc T (sk u))
inductive Run (T : Tv) : List Int → Rat → Dm → Bool → Out → Prop
 | fin {u q d o r} (h : st T u q d o = .inl r) : Run T u q d o r
 | go {u q d o u' q' d' o' r} (h : st T u q d o = .inr (u', q', d', o')) (k : Run T u' q' d' o' r) : Run T u q d o r
theorem sk_cons (x : Int) (l : List Int) : sk (x :: l) = if x = 32 then sk l else x :: l := rfl
theorem nr_cons (n : Nat) (x : Int) (l : List Int) : nr (n + 1) (x :: l) = if ano x then nr n l + 1 else 0 := rfl
theorem nm_cons (x : Int) (l : List Int) : nm (x :: l) = if ltr x then nr 15 l + 1 else 0 := rfl
theorem xd_cons (n : Nat) (d x : Int) (l : List Int) : xd (n + 1) d (x :: l) = if dgt x then xd n (10 * d + (x - 48)) l else (d, x :: l) := rfl
theorem sk_suf : ∀ u : List Int, sk u <:+ u
 | [] => List.suffix_refl _
 | x :: l => by
  unfold sk; split
  ·exact (sk_suf l).trans (List.suffix_cons x l)
  ·exact List.suffix_refl _
theorem sk_sk : ∀ u : List Int, sk (sk u) = sk u
 | [] => rfl
 | x :: l => by
  by_cases h : x = 32
  ·rw [sk_cons, if_pos h, sk_sk l]
  ·rw [sk_cons, if_neg h, sk_cons, if_neg h]
theorem sk_id {u : List Int} (h : hd u ≠ 32) : sk u = u := by
 cases u with
 | nil => rfl
 | cons x l => unfold sk; exact if_neg h
theorem nr_le : ∀ (n : Nat) (u : List Int), nr n u ≤ u.length
 | 0, u => by unfold nr; omega
 | n + 1, [] => Nat.le_refl _
 | n + 1, x :: l => by rw [nr_cons]; have := nr_le n l; split <;> simp only [List.length_cons] <;> omega
theorem nm_le (u : List Int) : nm u ≤ u.length := by
 cases u with
 | nil => exact Nat.le_refl _
 | cons x l => rw [nm_cons]; have := nr_le 15 l; split <;> simp only [List.length_cons] <;> omega
theorem xd_suf : ∀ (n : Nat) (d : Int) (u : List Int), (xd n d u).2 <:+ u
 | 0, d, u => List.suffix_refl _
 | n + 1, d, [] => List.suffix_refl _
 | n + 1, d, x :: l => by
  rw [xd_cons]; split
  ·exact (xd_suf n _ l).trans (List.suffix_cons x l)
  ·exact List.suffix_refl _
theorem tail_suf (u : List Int) : u.tail <:+ u := List.tail_suffix u
theorem exs_suf {m : Bool} {w : List Int} : (∀ a, exs m w = .inl a → a <:+ w) ∧ (∀ n r, exs m w = .inr (n, r) → r <:+ w) := by
 unfold exs
 constructor
 ·intro a h; split at h
  ·cases h; exact xd_suf _ _ _
  ·cases h
 ·intro n r h; split at h
  ·cases h
  ·cases h; exact xd_suf _ _ _
theorem ex_suf {u : List Int} : (∀ a, ex u = .inl a → a <:+ u) ∧ (∀ n r, ex u = .inr (n, r) → r <:+ u) := by
 have s1 := sk_suf u
 have s2 := (sk_suf _).trans ((tail_suf (sk u)).trans s1)
 have s3 := (sk_suf _).trans ((tail_suf (sk (sk u).tail)).trans s2)
 unfold ex
 constructor
 ·intro a h; split at h
  ·split at h
   ·exact (exs_suf.1 _ h).trans s3
   ·exact (exs_suf.1 _ h).trans s2
  ·cases h
 ·intro n r h; split at h
  ·split at h
   ·exact (exs_suf.2 _ _ h).trans s3
   ·exact (exs_suf.2 _ _ h).trans s2
  ·cases h; exact s1
theorem pc_suf {T : Tv} {u : List Int} : (∀ e a, pc T u = .bad e a → a <:+ u) ∧ (∀ r, pc T u = .one r → r <:+ u ∧ r.length < u.length) ∧ (∀ a r q d, pc T u = .un a r q d → a = u ∧ r <:+ u ∧ r.length < u.length) := by
 unfold pc
 have hn := nm_le u
 have hdr : u.drop (nm u) <:+ u := List.drop_suffix _ _
 by_cases c1 : hd u = 49
 ·rw [if_pos c1]
  refine ⟨fun e a h => by (cases h), fun r h => ?_, fun a r q d h => by cases h⟩
  cases h
  refine ⟨tail_suf u, ?_⟩
  cases u with
  | nil => exact absurd c1 (by decide)
  | cons x l => simp
 rw [if_neg c1]
 by_cases c2 : nm u = 0
 ·rw [if_pos c2]
  exact ⟨fun e a h => by cases h; exact List.suffix_refl _, fun r h => by (cases h), fun a r q d h => by cases h⟩
 rw [if_neg c2]
 by_cases c3 : ano (hd (u.drop (nm u))) = true
 ·rw [if_pos c3]
  exact ⟨fun e a h => by cases h; exact hdr, fun r h => by (cases h), fun a r q d h => by cases h⟩
 rw [if_neg c3]
 cases hT : T (u.take (nm u)) with
 | none => exact ⟨fun e a h => by cases h; exact List.suffix_refl _, fun r h => by (cases h), fun a r q d h => by cases h⟩
 | some x =>
  unfold pcu
  simp only []
  cases hx : ex (u.drop (nm u)) with
  | inl b => exact ⟨fun e a h => by cases h; exact (ex_suf.1 _ hx).trans hdr, fun r h => by (cases h), fun a r q d h => by cases h⟩
  | inr y =>
   unfold pcx
   simp only []
   split
   ·refine ⟨fun e a h => by (cases h), fun r h => by (cases h), fun a r q d h => ?_⟩
    cases h
    have hs := ex_suf.2 y.1 y.2 hx
    have := hs.length_le
    rw [List.length_drop] at this
    exact ⟨rfl, hs.trans hdr, by omega⟩
   ·exact ⟨fun e a h => by cases h; exact List.suffix_refl _, fun r h => by (cases h), fun a r q d h => by cases h⟩
theorem nx_lt {r : List Int} {q q' : Rat} {d d' : Dm} {o : Bool} {w : List Int} (h : nx r q d = .inr (w, q', d', o)) : w.length < r.length ∧ w <:+ r := by
 unfold nx at h
 have hs := sk_suf r
 split at h
 ·cases h
 ·rename_i x w' e
  rw [e] at hs
  have := hs.length_le
  simp only [List.length_cons] at this
  split at h
  ·cases h; exact ⟨by omega, (List.suffix_cons _ _).trans hs⟩
  ·split at h
   ·cases h; exact ⟨by omega, (List.suffix_cons _ _).trans hs⟩
   ·cases h
theorem st_lt {T : Tv} {u w : List Int} {q q' : Rat} {d d' : Dm} {o o' : Bool} (h : st T u q d o = .inr (w, q', d', o')) : w.length < u.length ∧ w <:+ u := by
 unfold st at h
 have hs := sk_suf u
 have hl := hs.length_le
 obtain ⟨h1, h2, h3⟩ := pc_suf (T := T) (u := sk u)
 cases hp : pc T (sk u) with
 | bad e a => rw [hp] at h; cases h
 | one r =>
  rw [hp] at h
  obtain ⟨a, b⟩ := nx_lt h
  obtain ⟨c, e⟩ := h2 r hp
  exact ⟨by omega, b.trans (c.trans hs)⟩
 | un a r qq dd =>
  rw [hp] at h
  unfold stp at h
  simp only [] at h
  split at h
  ·obtain ⟨a, b⟩ := nx_lt h
   obtain ⟨_, c, e⟩ := h3 _ _ _ _ hp
   exact ⟨by omega, b.trans (c.trans hs)⟩
  ·cases h
theorem Run.total (T : Tv) : ∀ (n : Nat) (u : List Int) (q : Rat) (d : Dm) (o : Bool), u.length < n → ∃ r, Run T u q d o r
 | 0, u, q, d, o, h => by omega
 | n + 1, u, q, d, o, h => by
  cases hs : st T u q d o with
  | inl r => exact ⟨r, .fin hs⟩
  | inr y =>
   obtain ⟨w, q', d', o'⟩ := y
   have := (st_lt hs).1
   obtain ⟨r, hr⟩ := Run.total T n w q' d' o' (by omega)
   exact ⟨r, .go hs hr⟩
variable {v : List Int}
theorem hd_app (u : List Int) : hd (u ++ 42 :: v) = hd u := by cases u <;> rfl
theorem sk_app : ∀ u : List Int, sk (u ++ 42 :: v) = sk u ++ 42 :: v
 | [] => rfl
 | x :: l => by
  show sk (x :: (l ++ 42 :: v)) = _
  rw [sk_cons, sk_cons]; split
  ·exact sk_app l
  ·rfl
theorem tail_app {u : List Int} (h : hd u ≠ 42) : (u ++ 42 :: v).tail = u.tail ++ 42 :: v := by
 cases u with
 | nil => exact absurd rfl h
 | cons x l => rfl
theorem nr_app : ∀ (n : Nat) (u : List Int), nr n (u ++ 42 :: v) = nr n u
 | 0, u => rfl
 | n + 1, [] => rfl
 | n + 1, x :: l => by
  show nr (n + 1) (x :: (l ++ 42 :: v)) = _
  rw [nr_cons, nr_cons, nr_app n l]
theorem nm_app (u : List Int) : nm (u ++ 42 :: v) = nm u := by
 cases u with
 | nil => rfl
 | cons x l => show nm (x :: (l ++ 42 :: v)) = _; rw [nm_cons, nm_cons, nr_app]
theorem xd_app : ∀ (n : Nat) (d : Int) (u : List Int), xd n d (u ++ 42 :: v) = ((xd n d u).1, (xd n d u).2 ++ 42 :: v)
 | 0, d, u => rfl
 | n + 1, d, [] => rfl
 | n + 1, d, x :: l => by
  show xd (n + 1) d (x :: (l ++ 42 :: v)) = _
  rw [xd_cons, xd_cons]; split
  ·exact xd_app n _ l
  ·rfl
def exA (v : List Int) : List Int ⊕ (Int × List Int) → List Int ⊕ (Int × List Int)
 | .inl a => .inl (a ++ 42 :: v)
 | .inr y => .inr (y.1, y.2 ++ 42 :: v)
theorem exs_app (m : Bool) (w : List Int) : exs m (w ++ 42 :: v) = exA v (exs m w) := by
 unfold exs
 rw [xd_app]
 simp only []
 rw [hd_app]
 by_cases h : (xd 3 0 w).2.length = w.length ∨ dgt (hd (xd 3 0 w).2) = true
 ·rw [if_pos h, if_pos (by simpa using h)]; rfl
 ·rw [if_neg h, if_neg (by simpa using h)]; rfl
theorem ex_app (u : List Int) : ex (u ++ 42 :: v) = exA v (ex u) := by
 unfold ex
 rw [sk_app, hd_app]
 by_cases h : hd (sk u) = 94
 ·rw [if_pos h, if_pos h, tail_app (by omega), sk_app, hd_app]
  by_cases h2 : hd (sk (sk u).tail) = 45
  ·rw [if_pos h2, if_pos h2, tail_app (by omega), sk_app, exs_app]
  ·rw [if_neg h2, if_neg h2, exs_app]
 ·rw [if_neg h, if_neg h]; rfl
def pcA (v : List Int) : Pc → Pc
 | .bad e a => .bad e (a ++ 42 :: v)
 | .one r => .one (r ++ 42 :: v)
 | .un a r q d => .un (a ++ 42 :: v) (r ++ 42 :: v) q d
theorem pc_app (T : Tv) (u : List Int) : pc T (u ++ 42 :: v) = pcA v (pc T u) := by
 unfold pc
 rw [hd_app, nm_app, List.drop_append_of_le_length (nm_le u), List.take_append_of_le_length (nm_le u), hd_app]
 by_cases c1 : hd u = 49
 ·rw [if_pos c1, if_pos c1, tail_app (by omega)]; rfl
 rw [if_neg c1, if_neg c1]
 by_cases c2 : nm u = 0
 ·rw [if_pos c2, if_pos c2]; rfl
 rw [if_neg c2, if_neg c2]
 by_cases c3 : ano (hd (u.drop (nm u))) = true
 ·rw [if_pos c3, if_pos c3]; rfl
 rw [if_neg c3, if_neg c3]
 cases T (u.take (nm u)) with
 | none => rfl
 | some x =>
  unfold pcu
  simp only []
  rw [ex_app]
  cases ex (u.drop (nm u)) with
  | inl b => rfl
  | inr y =>
   unfold exA pcx
   simp only []
   split <;> rfl
def stA (v : List Int) : Out ⊕ (List Int × Rat × Dm × Bool) → Out ⊕ (List Int × Rat × Dm × Bool)
 | .inl (.ok q d) => .inr (v, q, d, false)
 | .inl (.bad e a) => .inl (.bad e (a ++ 42 :: v))
 | .inr y => .inr (y.1 ++ 42 :: v, y.2)
theorem nx_app (r : List Int) (q : Rat) (d : Dm) : nx (r ++ 42 :: v) q d = stA v (nx r q d) := by
 unfold nx
 rw [sk_app]
 cases sk r with
 | nil => rfl
 | cons x w =>
  simp only [List.cons_append]
  split
  ·rfl
  ·split <;> rfl
theorem st_app (T : Tv) (u : List Int) (q : Rat) (d : Dm) (o : Bool) : st T (u ++ 42 :: v) q d o = stA v (st T u q d o) := by
 unfold st
 rw [sk_app, pc_app]
 cases pc T (sk u) with
 | bad e a => rfl
 | one r => exact nx_app r q d
 | un a r q' d' =>
  unfold pcA stp
  simp only []
  split
  ·exact nx_app r _ _
  ·rfl
theorem Run.app_ok {T : Tv} {u : List Int} {q : Rat} {d : Dm} {o : Bool} {r : Out} (h : Run T u q d o r) : ∀ {q' d'}, r = .ok q' d' → ∀ {r'}, Run T v q' d' false r' → Run T (u ++ 42 :: v) q d o r' := by
 induction h with
 | fin h => intro q' d' e r' k; subst e; exact .go ((st_app _ _ _ _ _).trans (congrArg (stA v) h)) k
 | go h _ ih => intro q' d' e r' k; exact .go ((st_app _ _ _ _ _).trans (congrArg (stA v) h)) (ih e k)
theorem Run.app_bad {T : Tv} {u : List Int} {q : Rat} {d : Dm} {o : Bool} {r : Out} (h : Run T u q d o r) : ∀ {e a}, r = .bad e a → Run T (u ++ 42 :: v) q d o (.bad e (a ++ 42 :: v)) := by
 induction h with
 | fin h => intro e a k; subst k; exact .fin ((st_app _ _ _ _ _).trans (congrArg (stA v) h))
 | go h _ ih => intro e a k; exact .go ((st_app _ _ _ _ _).trans (congrArg (stA v) h)) (ih k)
theorem qop_mul (o : Bool) (y z r : Rat) : qop o (y * z) r = y * qop o z r := by
 cases o
 ·exact Rat.mul_assoc y z r
 ·show y * z / r = y * (z / r)
  rw [Rat.div_def, Rat.div_def, Rat.mul_assoc]
theorem dop_mul (o : Bool) (a b c : Dm) : dop o (dmul a b) c = dmul a (dop o b c) := by
 cases o
 ·exact dmul_dmul a b c
 ·exact dmul_ddiv a b c
def Rel2 (y : Rat) (dy : Dm) (r r' : Out) : Prop := match r with
 | .ok z d => r' = .ok (y * z) (dmul dy d) ∨ ∃ a, r' = .bad 2 a
 | .bad e a => r' = .bad e a ∨ ∃ a, r' = .bad 2 a
theorem Rel2.lim (y : Rat) (dy : Dm) (r : Out) (a : List Int) : Rel2 y dy r (.bad 2 a) := by
 cases r with
 | bad e b => exact .inr ⟨a, rfl⟩
 | ok z d => exact .inr ⟨a, rfl⟩
def nxM (y : Rat) (dy : Dm) : Out ⊕ (List Int × Rat × Dm × Bool) → Out ⊕ (List Int × Rat × Dm × Bool)
 | .inl (.ok q d) => .inl (.ok (y * q) (dmul dy d))
 | .inl (.bad e a) => .inl (.bad e a)
 | .inr x => .inr (x.1, y * x.2.1, dmul dy x.2.2.1, x.2.2.2)
theorem nx_mul (r : List Int) (y q : Rat) (dy d : Dm) : nx r (y * q) (dmul dy d) = nxM y dy (nx r q d) := by
 unfold nx
 split
 ·rfl
 ·split
  ·rfl
  ·split <;> rfl
theorem st_mul (T : Tv) (u : List Int) (y z : Rat) (dy d : Dm) (o : Bool) :
  st T u (y * z) (dmul dy d) o = nxM y dy (st T u z d o) ∨ (∃ a, st T u (y * z) (dmul dy d) o = .inl (.bad 2 a)) ∨ (∃ a, st T u z d o = .inl (.bad 2 a)) := by
 unfold st
 cases pc T (sk u) with
 | bad e a => exact .inl rfl
 | one r => exact .inl (nx_mul r y z dy d)
 | un a r q' d' =>
  unfold stp
  simp only [qop_mul, dop_mul]
  by_cases c1 : Fit (qop o z q') (dop o d d')
  ·by_cases c2 : Fit (y * qop o z q') (dmul dy (dop o d d'))
   ·rw [if_pos c1, if_pos c2]; exact .inl (nx_mul r y _ dy _)
   ·rw [if_neg c2]; exact .inr (.inl ⟨a, rfl⟩)
  ·rw [if_neg c1]; exact .inr (.inr ⟨a, rfl⟩)
theorem Run.mul {T : Tv} {u : List Int} {z : Rat} {d : Dm} {o : Bool} {r : Out} (h : Run T u z d o r) (y : Rat) (dy : Dm) : (∃ a, r = .bad 2 a) ∨ ∃ r', Run T u (y * z) (dmul dy d) o r' ∧ Rel2 y dy r r' := by
 induction h with
 | @fin u q d o r h =>
  rcases st_mul T u y q dy d o with e | ⟨a, e⟩ | ⟨a, e⟩
  ·rw [h] at e
   cases r with
   | bad e' a => exact .inr ⟨_, .fin e, .inl rfl⟩
   | ok z' d' => exact .inr ⟨_, .fin e, .inl rfl⟩
  ·exact .inr ⟨_, .fin e, Rel2.lim _ _ _ a⟩
  ·rw [e] at h; cases h; exact .inl ⟨a, rfl⟩
 | @go u q d o u' q' d' o' r h k ih =>
  rcases st_mul T u y q dy d o with e | ⟨a, e⟩ | ⟨a, e⟩
  ·rw [h] at e
   rcases ih with hb | ⟨r', hr, hl⟩
   ·exact .inl hb
   ·exact .inr ⟨r', .go e hr, hl⟩
  ·exact .inr ⟨_, .fin e, Rel2.lim _ _ _ a⟩
  ·rw [e] at h; cases h
theorem pc_err {T : Tv} {u : List Int} {e : Int} {a : List Int} (h : pc T u = .bad e a) : e = 2 ∨ e = 12 ∨ e = 15 := by
 unfold pc at h
 split at h
 ·cases h
 split at h
 ·cases h; exact .inr (.inl rfl)
 split at h
 ·cases h; exact .inr (.inl rfl)
 unfold pcu at h
 split at h
 ·cases h; exact .inr (.inr rfl)
 ·unfold pcx at h
  split at h
  ·cases h; exact .inr (.inl rfl)
  ·split at h
   ·cases h
   ·cases h; exact .inl rfl
theorem nx_err {r : List Int} {q : Rat} {d : Dm} {e : Int} {a : List Int} (h : nx r q d = .inl (.bad e a)) : e = 2 ∨ e = 12 ∨ e = 15 := by
 unfold nx at h
 split at h
 ·cases h
 ·split at h
  ·cases h
  ·split at h
   ·cases h
   ·cases h; exact .inr (.inl rfl)
theorem st_err {T : Tv} {u : List Int} {q : Rat} {d : Dm} {o : Bool} {e : Int} {a : List Int} (h : st T u q d o = .inl (.bad e a)) : e = 2 ∨ e = 12 ∨ e = 15 := by
 unfold st at h
 cases hp : pc T (sk u) with
 | bad e' a' => rw [hp] at h; cases h; exact pc_err hp
 | one r => rw [hp] at h; exact nx_err h
 | un a r q' d' =>
  rw [hp] at h
  unfold stp at h
  simp only [] at h
  split at h
  ·exact nx_err h
  ·cases h; exact .inl rfl
theorem Run.err {T : Tv} {u : List Int} {q : Rat} {d : Dm} {o : Bool} {r : Out} (h : Run T u q d o r) : ∀ {e a}, r = .bad e a → e = 2 ∨ e = 12 ∨ e = 15 := by
 induction h with
 | fin h => intro e a k; subst k; exact st_err h
 | go h _ ih => intro e a k; exact ih k
def Gu (q : Rat) (d : Dm) : Prop := Fit q d ∧ 0 < q
def Tg (T : Tv) : Prop := ∀ w q d, T w = some (q, d) → Gu q d
theorem pw_pos {q : Rat} (h : 0 < q) (n : Int) : 0 < pw q n := by
 unfold pw; split
 ·refine Rat.pow_pos ?_
  rw [Rat.div_def, Rat.one_mul]; exact Rat.inv_pos.2 h
 ·exact Rat.pow_pos h
theorem pc_un {T : Tv} (hT : Tg T) {u a r : List Int} {q : Rat} {d : Dm} (h : pc T u = .un a r q d) : Gu q d := by
 unfold pc at h
 split at h
 ·cases h
 split at h
 ·cases h
 split at h
 ·cases h
 unfold pcu at h
 split at h
 ·cases h
 ·rename_i x hx
  unfold pcx at h
  split at h
  ·cases h
  ·split at h
   ·rename_i hp
    cases h
    exact ⟨hp.2, pw_pos (hT _ _ _ hx).2 _⟩
   ·cases h
theorem qop_pos {o : Bool} {q r : Rat} (hq : 0 < q) (hr : 0 < r) : 0 < qop o q r := by
 cases o
 ·exact Rat.mul_pos hq hr
 ·show 0 < q / r
  rw [Rat.div_def]; exact Rat.mul_pos hq (Rat.inv_pos.2 hr)
theorem nx_good {r : List Int} {q : Rat} {d : Dm} (h : Gu q d) : (∀ q' d', nx r q d = .inl (.ok q' d') → Gu q' d') ∧ (∀ w q' d' o, nx r q d = .inr (w, q', d', o) → Gu q' d') := by
 unfold nx
 constructor
 ·intro q' d' e
  split at e
  ·cases e; exact h
  ·split at e
   ·cases e
   ·split at e <;> cases e
 ·intro w q' d' o e
  split at e
  ·cases e
  ·split at e
   ·cases e; exact h
   ·split at e
    ·cases e; exact h
    ·cases e
theorem st_good {T : Tv} (hT : Tg T) {u : List Int} {q : Rat} {d : Dm} {o : Bool} (h : Gu q d) : (∀ q' d', st T u q d o = .inl (.ok q' d') → Gu q' d') ∧ (∀ w q' d' o', st T u q d o = .inr (w, q', d', o') → Gu q' d') := by
 unfold st
 cases hp : pc T (sk u) with
 | bad e a => exact ⟨fun _ _ e => by (cases e), fun _ _ _ _ e => by (cases e)⟩
 | one r => exact nx_good h
 | un a r qq dd =>
  have hg := pc_un hT hp
  unfold stp
  simp only []
  split
  ·rename_i hf; exact nx_good ⟨hf, qop_pos h.2 hg.2⟩
  ·exact ⟨fun _ _ e => by (cases e), fun _ _ _ _ e => by (cases e)⟩
theorem Run.good {T : Tv} (hT : Tg T) {u : List Int} {q : Rat} {d : Dm} {o : Bool} {r : Out} (h : Run T u q d o r) : Gu q d → ∀ {q' d'}, r = .ok q' d' → Gu q' d' := by
 induction h with
 | fin h => intro g q' d' e; subst e; exact (st_good hT g).1 _ _ h
 | go h _ ih => intro g q' d' e; exact ih ((st_good hT g).2 _ _ _ _ h) e
end Go.Proofs.YtpchdjdochkjpaaGreatDoor.Lib
set_option linter.unusedVariables false
set_option linter.unusedSimpArgs false
namespace Go.Proofs.YtpchdjdochkjpaaGreatDoor.Lib
open Go.RowKit Go.Proofs.YtpchdjdochkjpaaGreatDoorW.PrintWords Go.Proofs.YtpchdjdochkjpaaGreatDoorW.PrintMore Go.Proofs.YtpchdjdochkjpaaGreatDoor.P
def Nam (w : List Int) : Prop := w ≠ [] ∧ w.length ≤ 16 ∧ ltr (hd w) = true ∧ ∀ x ∈ w, ano x = true
theorem nr_all : ∀ (n : Nat) (l t : List Int), (∀ x ∈ l, ano x = true) → l.length ≤ n → ano (hd t) = false → nr n (l ++ t) = l.length
 | 0, l, t, ha, hl, ht => by
  obtain rfl := List.eq_nil_of_length_eq_zero (Nat.le_zero.1 hl)
  rfl
 | n + 1, [], t, ha, hl, ht => by
  show nr (n + 1) t = 0
  cases t with
  | nil => rfl
  | cons x t => rw [nr_cons, if_neg]; intro h; rw [show hd (x :: t) = x from rfl, h] at ht; cases ht
 | n + 1, x :: l, t, ha, hl, ht => by
  show nr (n + 1) (x :: (l ++ t)) = _
  rw [nr_cons, if_pos (ha x (List.mem_cons_self ..)), nr_all n l t (fun y hy => ha y (List.mem_cons_of_mem _ hy)) (by simpa using hl) ht]
  rfl
theorem ltr_not {x y : Int} (h : ltr x = true) (hy : ltr y = false) : x ≠ y := fun e => by rw [e, hy] at h; cases h
theorem ltr_ano {x : Int} (h : ltr x = true) : ano x = true := by unfold ano; rw [h]; rfl
theorem nm_name {w t : List Int} (h : Nam w) (ht : ano (hd t) = false) : nm (w ++ t) = w.length := by
 obtain ⟨h0, h1, h2, h3⟩ := h
 cases w with
 | nil => exact absurd rfl h0
 | cons x l =>
  show nm (x :: (l ++ t)) = _
  rw [nm_cons, if_pos (show ltr x = true from h2), nr_all 15 l t (fun y hy => h3 y (List.mem_cons_of_mem _ hy)) (by simp only [List.length_cons] at h1; omega) ht]
  rfl
theorem hd_name {w : List Int} (h : Nam w) (t : List Int) : hd (w ++ t) = hd w := by
 cases w with
 | nil => exact absurd rfl h.1
 | cons x l => rfl
theorem sk_name {w : List Int} (h : Nam w) (t : List Int) : sk (w ++ t) = w ++ t := sk_id (by rw [hd_name h]; exact ltr_not h.2.2.1 (by decide))
theorem pc_name {T : Tv} {w t : List Int} (h : Nam w) (ht : ano (hd t) = false) : pc T (w ++ t) = pcu (w ++ t) t (T w) := by
 unfold pc
 have hl : w.length ≠ 0 := fun e => h.1 (List.eq_nil_of_length_eq_zero e)
 rw [hd_name h, if_neg (ltr_not h.2.2.1 (by decide)), nm_name h ht, if_neg hl, List.drop_left, List.take_left, if_neg (by rw [ht]; decide)]
theorem st_name {T : Tv} {w t : List Int} (h : Nam w) (ht : ano (hd t) = false) (q : Rat) (d : Dm) (o : Bool) : st T (w ++ t) q d o = stp q d o (pcu (w ++ t) t (T w)) := by
 unfold st; rw [sk_name h, pc_name h ht]
theorem pw_one (q : Rat) : pw q 1 = q := by
 show q ^ 1 = q
 rw [Rat.pow_succ, Rat.pow_zero, Rat.one_mul]
theorem pw_neg {q : Rat} (h : 0 < q) (k : Nat) : pw q (k : Int) * pw q (-(k : Int)) = 1 := by
 have h0 : q ≠ 0 := Rat.ne_of_gt h
 cases k with
 | zero => show q ^ 0 * q ^ 0 = 1; rw [Rat.pow_zero, Rat.one_mul]
 | succ k =>
  have e1 : pw q ((k + 1 : Nat) : Int) = q ^ (k + 1) := by unfold pw; rw [if_neg (by omega)]; congr 1
  have e2 : pw q (-((k + 1 : Nat) : Int)) = (1 / q) ^ (k + 1) := by unfold pw; rw [if_pos (by omega)]; congr 1
  rw [e1, e2]
  have : ∀ n : Nat, q ^ n * (1 / q) ^ n = 1 := by
   intro n
   induction n with
   | zero => rw [Rat.pow_zero, Rat.pow_zero, Rat.one_mul]
   | succ n ih =>
    rw [Rat.pow_succ, Rat.pow_succ]
    generalize q ^ n = A at *
    generalize (1 / q) ^ n = B at *
    have e : q * (1 / q) = 1 := by rw [Rat.div_def, Rat.one_mul]; exact Rat.mul_inv_cancel q h0
    have : A * q * (B * (1 / q)) = (A * B) * (q * (1 / q)) := by
     rw [Rat.mul_assoc, ← Rat.mul_assoc q B, Rat.mul_comm q B, Rat.mul_assoc B, Rat.mul_assoc]
    rw [this, ih, e, Rat.one_mul]
  exact this _
theorem Fit_one : Fit 1 z7 := by decide
theorem qdiv_self {q : Rat} (h : 0 < q) : q / q = 1 := by rw [Rat.div_def]; exact Rat.mul_inv_cancel q (Rat.ne_of_gt h)
variable {T : Tv} {w : List Int} {q : Rat} {d : Dm}
theorem Pw_one (h : Gu q d) : Pw 1 q d := ⟨by omega, by rw [pw_one, dpow_one]; exact h.1⟩
theorem pcu_plain (h : Gu q d) {u t : List Int} (h1 : ex t = .inr (1, t)) : pcu u t (some (q, d)) = .un u t q d := by
 show pcx u (q, d) (ex t) = _
 rw [h1]
 show (if Pw 1 q d then Pc.un u t (pw q 1) (dpow d 1) else _) = _
 rw [if_pos (Pw_one h), pw_one, dpow_one]
theorem stp_one (h : Gu q d) (a r : List Int) : stp 1 z7 false (.un a r q d) = nx r q d := by
 have e1 : qop false 1 q = q := Rat.one_mul q
 have e2 : dop false z7 d = d := dmul_z7 d
 unfold stp
 simp only []
 rw [e1, e2, if_pos h.1]
theorem Run_name (hw : Nam w) (h : T w = some (q, d)) (g : Gu q d) : Run T w 1 z7 false (.ok q d) := by
 refine .fin ?_
 have := st_name (T := T) (t := []) hw (by decide) 1 z7 false
 rw [List.append_nil] at this
 rw [this, h, pcu_plain g (by rfl), stp_one g]
 rfl
theorem Run_none (hw : Nam w) (h : T w = none) (q : Rat) (d : Dm) (o : Bool) : Run T w q d o (.bad 15 w) := by
 refine .fin ?_
 have := st_name (T := T) (t := []) hw (by decide) q d o
 rw [List.append_nil] at this
 rw [this, h]
 rfl
theorem Run_self (hw : Nam w) (h : T w = some (q, d)) (g : Gu q d) : Run T (w ++ 47 :: w) 1 z7 false (.ok 1 z7) := by
 refine .go (u' := w) (q' := q) (d' := d) (o' := true) ?_ (.fin ?_)
 ·rw [st_name (t := 47 :: w) hw (show ano 47 = false by decide), h, pcu_plain g (by rfl), stp_one g]
  rfl
 ·have := st_name (T := T) (t := []) hw (by decide) q d true
  rw [List.append_nil] at this
  rw [this, h, pcu_plain g (by rfl)]
  have e1 : qop true q q = 1 := qdiv_self g.2
  have e2 : dop true d d = z7 := ddiv_self d
  unfold stp
  simp only []
  rw [e1, e2, if_pos Fit_one]
  rfl
theorem Run_blank (hw : Nam w) (h : T w = some (q, d)) (g : Gu q d) : Run T (32 :: 32 :: (w ++ [32, 94, 32, 49, 32])) 1 z7 false (.ok q d) := by
 refine .fin ?_
 have : st T (32 :: 32 :: (w ++ [32, 94, 32, 49, 32])) 1 z7 false = st T (w ++ [32, 94, 32, 49, 32]) 1 z7 false := rfl
 rw [this, st_name hw (by decide : ano (hd [32, 94, 32, 49, 32]) = false), h]
 have e : pcu (w ++ [32, 94, 32, 49, 32]) [32, 94, 32, 49, 32] (some (q, d)) = .un (w ++ [32, 94, 32, 49, 32]) [32] q d := by
  show pcx _ (q, d) (ex [32, 94, 32, 49, 32]) = _
  rw [show ex [32, 94, 32, 49, 32] = .inr (1, [32]) from by rfl]
  show (if Pw 1 q d then Pc.un _ [32] (pw q 1) (dpow d 1) else _) = _
  rw [if_pos (Pw_one g), pw_one, dpow_one]
 rw [e, stp_one g]
 rfl
theorem ex_pos {k : Nat} (hk : k ≤ 4) (r : List Int) : ex (94 :: (48 + (k : Int)) :: 42 :: r) = .inr ((k : Int), 42 :: r) := by
 have : k = 0 ∨ k = 1 ∨ k = 2 ∨ k = 3 ∨ k = 4 := by omega
 rcases this with rfl | rfl | rfl | rfl | rfl <;> simp [ex, sk, hd, exs, xd, dgt]
theorem ex_neg {k : Nat} (hk : k ≤ 4) : ex [94, 45, 48 + (k : Int)] = .inr (-(k : Int), []) := by
 have : k = 0 ∨ k = 1 ∨ k = 2 ∨ k = 3 ∨ k = 4 := by omega
 rcases this with rfl | rfl | rfl | rfl | rfl <;> decide
theorem Run_power {k : Nat} (hk : k ≤ 4) (hw : Nam w) (h : T w = some (q, d)) (g : Gu q d) (p1 : Pw (k : Int) q d) (p2 : Pw (-(k : Int)) q d) :
  Run T (w ++ 94 :: (48 + (k : Int)) :: 42 :: (w ++ [94, 45, 48 + (k : Int)])) 1 z7 false (.ok 1 z7) := by
 have e94 : ∀ t : List Int, ano (hd (94 :: t)) = false := fun t => show ano 94 = false by decide
 refine .go (u' := w ++ [94, 45, 48 + (k : Int)]) (q' := pw q k) (d' := dpow d k) (o' := false) ?_ (.fin ?_)
 ·rw [st_name hw (e94 _), h]
  have e : ∀ u r, ex r = .inr ((k : Int), 42 :: (w ++ [94, 45, 48 + (k : Int)])) → pcu u r (some (q, d)) = .un u (42 :: (w ++ [94, 45, 48 + (k : Int)])) (pw q k) (dpow d k) := fun u r hr => by
   show pcx u (q, d) (ex r) = _
   rw [hr]
   exact if_pos p1
  rw [e _ _ (ex_pos hk _)]
  have e1 : qop false 1 (pw q k) = pw q k := Rat.one_mul _
  have e2 : dop false z7 (dpow d k) = dpow d k := dmul_z7 _
  unfold stp
  simp only []
  rw [e1, e2, if_pos p1.2]
  rfl
 ·rw [st_name hw (e94 _), h]
  have e : ∀ u r, ex r = .inr (-(k : Int), []) → pcu u r (some (q, d)) = .un u [] (pw q (-(k : Int))) (dpow d (-(k : Int))) := fun u r hr => by
   show pcx u (q, d) (ex r) = _
   rw [hr]
   exact if_pos p2
  rw [e _ _ (ex_neg hk)]
  have e1 : qop false (pw q k) (pw q (-(k : Int))) = 1 := pw_neg g.2 k
  have e2 : dop false (dpow d k) (dpow d (-(k : Int))) = z7 := dmul_neg d k
  unfold stp
  simp only []
  rw [e1, e2, if_pos Fit_one]
  rfl
end Go.Proofs.YtpchdjdochkjpaaGreatDoor.Lib
set_option linter.unusedVariables false
set_option linter.unusedSimpArgs false
namespace Go.Proofs.YtpchdjdochkjpaaGreatDoor.Lib
open Go.RowKit Go.Proofs.YtpchdjdochkjpaaGreatDoorW.PrintWords Go.Proofs.YtpchdjdochkjpaaGreatDoorW.PrintMore Go.Proofs.YtpchdjdochkjpaaGreatDoor.P
variable {m p : Nat} {a b : List Int} {q r : Rat} {d d' : Dm}
theorem num_pos' (h : 0 < q) : 0 < q.num := by
 have h1 := (cmpQ_pos q 0).2 h
 rw [cmpQ_0] at h1
 unfold cmpZ at h1
 split at h1
 ·omega
 ·split at h1 <;> omega
theorem vz_pos (h : 0 < q) : (cz q.num).1 = false := by
 have := num_pos' h
 rw [cz1]; exact decide_eq_false (by omega)
theorem pow_num (q : Rat) (n : Nat) : (q ^ n).num.natAbs = q.num.natAbs ^ n := by rw [Rat.num_pow, Int.natAbs_pow]
theorem pow_den (q : Rat) (n : Nat) : (q ^ n).den = q.den ^ n := Rat.den_pow q n
theorem within_yes {n : Int} (h : -64 ≤ n ∧ n ≤ 64) : power_within.f n 128 = some true := by
 unfold power_within.f
 have e : wrap64 (-128) = -128 := w64 (by omega) (by omega)
 rw [if_pos (by rw [e]; omega), decide_eq_true (by omega)]
theorem pow_pos_to (h : Qs q) (hq : 0 < q) {n : Nat} (h0 : 0 < n) (hn : n ≤ 64) : Ev (fun k => power_Of.f k (cz q.num).1 (cz q.num).2 (L q.den) (n : Int)) (qr (q ^ n)) := by
 refine Ev.succ ?_
 simp only [power_Of.f]
 refine Ev.bind (qGood_yes h) (Ev.ifp rfl (Ev.bind (Ev.const (within_yes (by omega))) (Ev.ifp rfl (Ev.ifn (by omega) (Ev.ifn (by omega) ?_)))))
 have ea : V (cz q.num).2 = q.num.natAbs := by rw [cz2, V_L]
 have eb : V (L q.den) = q.den := V_L _
 by_cases c1 : q.num.natAbs ^ n < Bp 256
 ·by_cases c2 : q.den ^ n < Bp 256
  ·refine Ev.bind (Pow_to (Qs_a h) (by omega) (by omega) (by omega) (n := q.num.natAbs ^ n) (by rw [ea, Int.toNat_natCast]) c1) (Ev.bind (Pow_to (Qs_b h) (by omega) (by omega) (by omega) (n := q.den ^ n) (by rw [eb, Int.toNat_natCast]) c2) ?_)
   refine Ev.ifp rfl (Ev.ifp rfl ?_)
   have hl : (L (q.den ^ n)).length ≤ 256 := (S_L c2).2
   refine Ev.ifp (by omega) (Ev.ifp (show ((((L (q.den ^ n)).length : Nat) : Int)).toNat ≤ 70368744177664 by rw [Int.toNat_natCast]; omega) ?_)
   refine Ev.bind (Ev.const (by rw [Int.toNat_natCast, cpy_all])) ?_
   refine Ev.ifn (by rw [vz_pos hq]; decide) ?_
   refine Ev.bind (qOf_to (m := 256) (S_L c1) (S_L c2) (by omega) (by rw [V_L]; exact fun e => q.den_nz (Nat.pow_eq_zero.1 e).1) (q := q ^ n) ?_) (Ev.now _)
   rw [V_L]
   have : vz false (L (q.num.natAbs ^ n)) = (q ^ n).num := by
    show ((V (L (q.num.natAbs ^ n)) : Nat) : Int) = _
    rw [V_L, ← pow_num]
    have := num_pos' (Rat.pow_pos hq : 0 < q ^ n)
    omega
   rw [this, ← pow_den]
   exact Rat.mkRat_self _
  ·refine Ev.bind (Pow_to (Qs_a h) (by omega) (by omega) (by omega) (n := q.num.natAbs ^ n) (by rw [ea, Int.toNat_natCast]) c1) (Ev.bind (Pow_no (Qs_b h) (by omega) (by omega) (by omega) (.inr (by rw [eb, Int.toNat_natCast]; exact c2))) ?_)
   refine Ev.ifp rfl (Ev.ifn (by decide) (Ev.const ?_))
   rw [qr_no (fun e => c2 (lt_up (by rw [← pow_den]; exact e.2) (by omega)))]
 ·have c3 : ¬ Qs (q ^ n) := fun e => c1 (lt_up (by rw [← pow_num]; exact e.1) (by omega))
  rw [qr_no c3]
  have h1 := Pow_no (Qs_a h) (by omega) (v := (n : Int)) (by omega) (by omega) (.inr (by rw [ea, Int.toNat_natCast]; exact c1))
  by_cases c2 : q.den ^ n < Bp 256
  ·exact Ev.bind h1 (Ev.bind (Pow_to (Qs_b h) (by omega) (by omega) (by omega) (n := q.den ^ n) (by rw [eb, Int.toNat_natCast]) c2) (Ev.ifn (by decide) (Ev.now _)))
  ·exact Ev.bind h1 (Ev.bind (Pow_no (Qs_b h) (by omega) (by omega) (by omega) (.inr (by rw [eb, Int.toNat_natCast]; exact c2))) (Ev.ifn (by decide) (Ev.now _)))
theorem Qs_one : Qs 1 := by decide
theorem one_div_mk (hq : 0 < q) : 1 / q = mkRat q.den q.num.natAbs := by
 have hn := num_pos' hq
 rw [div_def' 1 q (by omega), if_neg (by omega)]
 congr 1
 ·show (1 : Int) * q.den * 1 = _; omega
 ·show 1 * q.num.natAbs = _; omega
theorem Qs_inv (h : Qs q) (hq : 0 < q) : Qs (1 / q) := by
 have hn := num_pos' hq
 rw [one_div_mk hq]
 exact Qm_mk (by omega) (by rw [Int.natAbs_natCast]; exact h.2) h.1
theorem inv_pos' (hq : 0 < q) : 0 < 1 / q := by rw [Rat.div_def, Rat.one_mul]; exact Rat.inv_pos.2 hq
theorem power_to (h : Qs q) (hq : 0 < q) {n : Int} (hn : -64 ≤ n ∧ n ≤ 64) : Ev (fun k => power_Of.f k (cz q.num).1 (cz q.num).2 (L q.den) n) (qr (pw q n)) := by
 have hnum := num_pos' hq
 rcases Int.lt_trichotomy n 0 with c | c | c
 ·obtain ⟨j, rfl⟩ : ∃ j : Nat, n = -(j : Int) := ⟨n.natAbs, by omega⟩
  refine Ev.succ ?_
  simp only [power_Of.f]
  refine Ev.bind (qGood_yes h) (Ev.ifp rfl (Ev.bind (Ev.const (within_yes hn)) (Ev.ifp rfl (Ev.ifn (by omega) (Ev.ifp (by omega) ?_)))))
  have ht : Ev (fun k => power_turned.f k (cz q.num).1 (cz q.num).2 (L q.den)) (qr (1 / q)) := by
   unfold power_turned.f
   refine Ev.bind (qWhole_to (by omega) (by omega)) ?_
   exact Ev.bind (qDiv_to (q := 1) Qs_one h (by omega) rfl) (Ev.now _)
  refine Ev.bind ht ?_
  rw [qr_yes (Qs_inv h hq)]
  refine Ev.ifp rfl ?_
  have e : wrap64 (-(-(j : Int))) = (j : Int) := by rw [w64 (by omega) (by omega)]; omega
  have ep : pw q (-(j : Int)) = (1 / q) ^ j := by unfold pw; rw [if_pos (by omega)]; congr 1; omega
  rw [ep, e]
  exact Ev.bind (pow_pos_to (Qs_inv h hq) (inv_pos' hq) (by omega) (by omega)) (Ev.now _)
 ·subst c
  refine Ev.succ ?_
  simp only [power_Of.f]
  refine Ev.bind (qGood_yes h) (Ev.ifp rfl (Ev.bind (Ev.const (within_yes (by omega))) (Ev.ifp rfl (Ev.ifp trivial ?_))))
  have e : pw q 0 = 1 := by unfold pw; rw [if_neg (by omega)]; exact Rat.pow_zero _
  rw [e, qr_yes Qs_one]
  exact Ev.bind (qWhole_to (by omega) (by omega)) (Ev.now _)
 ·obtain ⟨j, rfl⟩ : ∃ j : Nat, n = (j : Int) := ⟨n.natAbs, by omega⟩
  have ep : pw q (j : Int) = q ^ j := by unfold pw; rw [if_neg (by omega)]; congr 1
  rw [ep]
  exact pow_pos_to h hq (by omega) (by omega)
def cu (q : Rat) (d : Dm) : Un := ⟨(cz q.num).1, (cz q.num).2, L q.den, d⟩
def ru (q : Rat) (d : Dm) : Un × Bool := (⟨(qr q).1, (qr q).2.1, (qr q).2.2.1, (dr d).1⟩, decide (Fit q d))
def zu : Un := ⟨false, [], [], z7⟩
theorem ru_yes (h : Fit q d) : ru q d = (cu q d, true) := by
 unfold ru cu
 rw [qr_yes h.1, dr_yes h.2, decide_eq_true h]
theorem ru_no (h : ¬ Fit q d) : (ru q d).2 = false := decide_eq_false h
theorem ru_if (q : Rat) (d : Dm) : (if (qr q).2.2.2 = 0 then (some (⟨(qr q).1, (qr q).2.1, (qr q).2.2.1, (dr d).1⟩, decide ((dr d).2 = 0)) : Option (Un × Bool)) else (some (⟨(qr q).1, (qr q).2.1, (qr q).2.2.1, (dr d).1⟩, false))) = some (ru q d) := by
 unfold ru
 by_cases h : Qs q
 ·have e : (qr q).2.2.2 = 0 := by rw [qr_yes h]
  rw [if_pos e]
  by_cases h2 : Gd d
  ·have e2 : (dr d).2 = 0 := by rw [dr_yes h2]
   rw [decide_eq_true e2, decide_eq_true (show Fit q d from ⟨h, h2⟩)]
  ·have e2 : ¬ (dr d).2 = 0 := by rw [dr_no h2]; decide
   rw [decide_eq_false e2, decide_eq_false (fun e : Fit q d => h2 e.2)]
 ·have e : ¬ (qr q).2.2.2 = 0 := by rw [qr_no h]; decide
  rw [if_neg e, decide_eq_false (fun e : Fit q d => h e.1)]
theorem product_to (h : Gu q d) (k : Gu r d') (o : Bool) : Ev (fun n => unit_product.f n (cu q d) (cu r d') o) (ru (qop o q r) (dop o d d')) := by
 unfold unit_product.f
 have hr := num_pos' k.2
 cases o
 ·refine Ev.ifn (by decide) (Ev.bind (qMul_to h.1.1 k.1.1 rfl) (Ev.bind (Ev.const (dMul_eq h.1.2 k.1.2)) (Ev.const (ru_if _ _))))
 ·refine Ev.ifp rfl (Ev.bind (qDiv_to h.1.1 k.1.1 (by omega) rfl) (Ev.bind (Ev.const (dDiv_eq h.1.2 k.1.2)) (Ev.const (ru_if _ _))))
theorem raised_to (h : Gu q d) {n : Int} (hn : -64 ≤ n ∧ n ≤ 64) : Ev (fun k => unit_raised.f k (cu q d) n) (ru (pw q n) (dpow d n)) := by
 unfold unit_raised.f
 refine Ev.ifn (by omega) (Ev.ifn (by omega) (Ev.bind (power_to h.1.1 h.2 hn) (Ev.bind (Ev.const (dPow_eq h.1.2 (by omega))) (Ev.const (ru_if _ _)))))
theorem raised_no {u : Un} {n : Int} (hn : n < -64 ∨ 64 < n) : Ev (fun k => unit_raised.f k u n) (zu, false) := by
 unfold unit_raised.f
 by_cases c : n < -64
 ·exact Ev.ifp c (Ev.now _)
 ·exact Ev.ifn c (Ev.ifp (by omega) (Ev.now _))
theorem may_to (h : Gu q d) : Ev (fun k => unit_may.f k (cu q d)) true := by
 unfold unit_may.f
 refine Ev.bind (qSign_to h.1.1) (Ev.ifp ((cmpQ_pos _ _).2 h.2) (Ev.bind (Ev.const (dGood_yes h.1.2)) (Ev.now _)))
theorem copied_to (h : Qs q) (d : Dm) : Ev (fun k => unit_copied.f k (cz q.num).1 (cz q.num).2 (L q.den) d.d0 d.d1 d.d2 d.d3 d.d4 d.d5 d.d6) ((cz q.num).1, (cz q.num).2, L q.den, d.d0, d.d1, d.d2, d.d3, d.d4, d.d5, d.d6) := by
 unfold unit_copied.f
 refine Ev.bind (qNeg_to h) (Ev.bind (qNeg_to (Qs_neg h)) (Ev.const ?_))
 rw [Rat.neg_neg]
def uv (u : Un) : Rat := mkRat (vz u.g u.m) (V u.b)
def Tk (l : Tab) : Prop := ∀ n u, tget n l = some u → ∃ q d, u = cu q d ∧ Gu q d
theorem uv_cu (q : Rat) (d : Dm) : uv (cu q d) = q := by
 unfold uv cu
 simp only []
 rw [V_L]
 have : vz (cz q.num).1 (cz q.num).2 = q.num := vz_cz q.num
 rw [this]
 exact Rat.mkRat_self q
def tv (l : Tab) : Tv := fun w => (tget (strOfNums w) l).map fun u => (uv u, u.d)
theorem strOf_ns (s : ByteArray) : strOfNums (ns s) = s := ns_inj (ns_strOf (ns_B8 s))
theorem tv_ns (l : Tab) (n : ByteArray) : tv l (ns n) = (tget n l).map fun u => (uv u, u.d) := by unfold tv; rw [strOf_ns]
theorem tv_none {l : Tab} {n : ByteArray} (h : tv l (ns n) = none) : tget n l = none := by
 rw [tv_ns] at h
 cases e : tget n l with
 | none => rfl
 | some u => rw [e] at h; cases h
theorem tv_some {l : Tab} (hl : Tk l) {n : ByteArray} (h : tv l (ns n) = some (q, d)) : tget n l = some (cu q d) ∧ Gu q d := by
 rw [tv_ns] at h
 cases e : tget n l with
 | none => rw [e] at h; cases h
 | some u =>
  rw [e] at h
  obtain ⟨q', d', rfl, g⟩ := hl n u e
  cases h
  rw [uv_cu]
  exact ⟨rfl, g⟩
theorem tv_get {l : Tab} {n : ByteArray} (h : tget n l = some (cu q d)) : tv l (ns n) = some (q, d) := by
 rw [tv_ns, h]
 show some (uv (cu q d), d) = _
 rw [uv_cu]
theorem Tg_tv {l : Tab} (hl : Tk l) : Tg (tv l) := by
 intro w q d h
 unfold tv at h
 cases e : tget (strOfNums w) l with
 | none => rw [e] at h; cases h
 | some u =>
  rw [e] at h
  obtain ⟨q', d', rfl, g⟩ := hl _ u e
  cases h
  rw [uv_cu]
  exact g
theorem Of_yes {l : Tab} {n : ByteArray} (h : tget n l = some (cu q d)) (g : Gu q d) : Ev (fun k => unit_Table_Of.f k (some l) n) (l, cu q d, true) := by
 unfold unit_Table_Of.f
 refine Ev.bind (a := l) (Ev.now _) ?_
 rw [h]
 exact Ev.bind (copied_to g.1.1 d) (Ev.now _)
theorem Of_no {l : Tab} {n : ByteArray} (h : tget n l = none) : Ev (fun k => unit_Table_Of.f k (some l) n) (l, zu, false) := by
 unfold unit_Table_Of.f
 refine Ev.bind (a := l) (Ev.now _) ?_
 rw [h]
 exact Ev.now _
theorem Has_yes {l : Tab} {n : ByteArray} (h : tget n l = some (cu q d)) (g : Gu q d) : Ev (fun k => unit_Table_Has.f k (some l) n) (l, true) := by
 unfold unit_Table_Has.f
 exact Ev.bind (Of_yes h g) (Ev.now _)
theorem Has_no {l : Tab} {n : ByteArray} (h : tget n l = none) : Ev (fun k => unit_Table_Has.f k (some l) n) (l, false) := by
 unfold unit_Table_Has.f
 exact Ev.bind (Of_no h) (Ev.now _)
theorem keepUnit_to (h : Qs q) (d : Dm) : Ev (fun k => steelyardkeep_Unit.f k (cu q d) (cu q d)) true := by
 unfold steelyardkeep_Unit.f
 refine Ev.ifp (by simp [cu]) ?_
 exact Ev.bind (keepQ_to h rfl) (Ev.now _)
end Go.Proofs.YtpchdjdochkjpaaGreatDoor.Lib
set_option linter.unusedVariables false
set_option linter.unusedSimpArgs false
namespace Go.Proofs.YtpchdjdochkjpaaGreatDoor.Lib
open Go.RowKit Go.Proofs.YtpchdjdochkjpaaGreatDoorW.PrintWords Go.Proofs.YtpchdjdochkjpaaGreatDoorW.PrintMore Go.Proofs.YtpchdjdochkjpaaGreatDoor.P
variable {s : ByteArray} {u v : List Int} {w : Un} {e p : Int}
def po (s : ByteArray) (u : List Int) : Int := (s.size : Int) - u.length
theorem po_range (h : u <:+ ns s) : 0 ≤ po s u ∧ po s u ≤ s.size := by
 have := h.length_le
 rw [ns_len] at this
 unfold po; omega
theorem po_nil : po s [] = s.size := by unfold po; simp
theorem po_cons {x : Int} {l : List Int} : po s l = po s (x :: l) + 1 := by unfold po; simp only [List.length_cons]; omega
theorem po_lt {x : Int} {l : List Int} : po s (x :: l) < s.size := by unfold po; simp only [List.length_cons]; omega
theorem po_nat (h : u <:+ ns s) : po s u = ((s.size - u.length : Nat) : Int) := by
 have := h.length_le
 rw [ns_len] at this
 unfold po; omega
theorem drop_suf (h : u <:+ ns s) : (ns s).drop (s.size - u.length) = u := by
 have := List.suffix_iff_eq_drop.1 h
 rw [ns_len] at this
 exact this.symm
theorem ns_from (h : u <:+ ns s) : ns (s.extract (po s u).toNat s.size) = u := by
 rw [ns_extract, po_nat h, Int.toNat_natCast, drop_suf h]
 have := h.length_le
 rw [ns_len] at this
 exact List.take_of_length_le (by omega)
theorem ns_mid (h : u <:+ ns s) {n : Nat} (hn : n ≤ u.length) : ns (s.extract (po s u).toNat (po s (u.drop n)).toNat) = u.take n := by
 have hl := h.length_le
 rw [ns_len] at hl
 rw [ns_extract, po_nat h, po_nat ((List.drop_suffix n u).trans h), Int.toNat_natCast, Int.toNat_natCast, drop_suf h, List.length_drop]
 congr 1; omega
theorem bt_po {x : Int} {l : List Int} (h : (x :: l) <:+ ns s) : bt s (po s (x :: l)) = x := by
 rw [po_nat h, bt_ns]
 have h1 := drop_suf h
 have h2 : ((ns s).drop (s.size - (x :: l).length)).getD 0 0 = x := by rw [h1]; rfl
 rw [get_drop] at h2
 exact h2
theorem suf_byte {x : Int} {l : List Int} (h : (x :: l) <:+ ns s) : 0 ≤ x ∧ x < 256 := ns_B8 s x (h.subset (List.mem_cons_self ..))
theorem tl_suf {x : Int} {l : List Int} (h : (x :: l) <:+ ns s) : l <:+ ns s := (List.suffix_cons x l).trans h
theorem HasPrefix_one (t : ByteArray) (c : UInt8) (hc : (c.toNat : Int) ≠ 42) : strings_HasPrefix.f t ⟨#[c]⟩ = some (decide (hd (ns t) = (c.toNat : Int))) := by
 unfold strings_HasPrefix.f stringslite_HasPrefix.f
 have h1 : (⟨#[c]⟩ : ByteArray).size = 1 := rfl
 have hb : ns (⟨#[c]⟩ : ByteArray) = [(c.toNat : Int)] := rfl
 rw [h1]
 have hl := ns_len t
 cases hu : ns t with
 | nil =>
  rw [hu] at hl
  rw [if_neg (by simp only [List.length_nil] at hl; omega), Option.bind_some, decide_eq_false (by show ¬ (42 : Int) = _; omega)]
 | cons x l =>
  rw [hu] at hl
  simp only [List.length_cons] at hl
  rw [if_pos (by omega), if_pos (by omega), if_pos (by omega), Option.bind_some]
  have h2 : ns (t.extract 0 ((1 : Nat) : Int).toNat) = [x] := by rw [ns_extract, hu]; rfl
  show some _ = some (decide (x = _))
  congr 1
  rw [Bool.eq_iff_iff, beq_iff_eq, decide_eq_true_eq, ns_eq_iff, h2, hb]
  simp
theorem index_mem (b : UInt8) : ∀ l : List UInt8, -1 ≤ Go.Lib.indexByte l b ∧ (0 ≤ Go.Lib.indexByte l b ↔ b ∈ l)
 | [] => by simp [Go.Lib.indexByte]
 | c :: l => by
  obtain ⟨h1, h2⟩ := index_mem b l
  unfold Go.Lib.indexByte
  by_cases hc : c = b
  ·subst hc; simp
  ·rw [if_neg (by simpa using hc)]
   by_cases h3 : Go.Lib.indexByte l b = -1
   ·rw [if_pos (by simpa using h3)]
    have : ¬ b ∈ l := fun h => by have := h2.2 h; omega
    refine ⟨by omega, ?_⟩
    simp only [List.mem_cons]
    constructor
    ·intro h; omega
    ·rintro (h | h)
     ·exact absurd h.symm hc
     ·exact absurd h this
   ·rw [if_neg (by simpa using h3)]
    have : b ∈ l := h2.1 (by omega)
    exact ⟨by omega, fun _ => List.mem_cons_of_mem _ this, fun _ => by omega⟩
theorem Contains_one (g t : ByteArray) (ht : t.size = 1) : strings_Contains.f g t = some (decide (hd (ns t) ∈ ns g)) := by
 unfold strings_Contains.f
 rw [if_pos ht]
 have hl : t.data.toList.length = 1 := ht
 obtain ⟨b, hb⟩ := List.length_eq_one_iff.1 hl
 have h1 : t.data.getD 0 0 = b := by
  have : t.data = #[b] := Array.toList_inj.1 (by rw [hb])
  rw [this]; rfl
 have h2 : ns t = [(b.toNat : Int)] := by unfold ns; rw [hb]; rfl
 rw [h1, h2]
 congr 1
 rw [Bool.eq_iff_iff, decide_eq_true_eq, decide_eq_true_eq, (index_mem b _).2]
 show _ ↔ (b.toNat : Int) ∈ _
 unfold ns
 rw [List.mem_map]
 constructor
 ·intro h; exact ⟨b, h, rfl⟩
 ·rintro ⟨c, hc, e⟩
  have : c = b := UInt8.toNat_inj.1 (Int.ofNat.inj e)
  exact this ▸ hc
theorem letter_eq (x : Int) : unit_letter.f x = some (ltr x) := by
 unfold unit_letter.f ltr
 by_cases h1 : 97 ≤ x
 ·by_cases h2 : x ≤ 122
  ·rw [if_pos h1, if_pos h2]; simp [h1, h2]
  ·rw [if_pos h1, if_neg h2, if_pos (by omega)]; simp [h1, h2]; omega
 ·rw [if_neg h1]
  by_cases h3 : 65 ≤ x
  ·rw [if_pos h3]; simp [h1, h3]
  ·rw [if_neg h3]; simp [h1, h3]
theorem digit_eq (x : Int) : unit_digit.f x = some (dgt x) := by
 unfold unit_digit.f dgt
 by_cases h1 : 48 ≤ x
 ·rw [if_pos h1]; simp [h1]
 ·rw [if_neg h1]; simp [h1]
theorem w_next (hs : s.size ≤ 1000000) {x : Int} {l : List Int} (h : (x :: l) <:+ ns s) : wrap64 (po s (x :: l) + 1) = po s l := by
 have := po_range h
 have e : po s l = po s (x :: l) + 1 := po_cons
 rw [w64 (by omega) (by omega), e]
theorem skip_to (hs : s.size ≤ 1000000) : ∀ u : List Int, u <:+ ns s → Ev (fun k => unit_reader_skip.f k s ⟨po s u, w, e, p⟩) ⟨po s (sk u), w, e, p⟩
 | [], h => by
  have := po_range h
  refine Ev.succ ?_
  simp only [unit_reader_skip.f, unit_reader_skip.l0]
  refine Ev.ifp this.1 (Ev.ifp this.2 (Ev.bind (a := false) (Ev.const ((HasPrefix_one _ 32 (by decide)).trans ?_)) (Ev.ifn (by decide) (Ev.now _))))
  rw [ns_from h]; rfl
 | x :: l, h => by
  have := po_range h
  refine Ev.succ ?_
  simp only [unit_reader_skip.f, unit_reader_skip.l0]
  refine Ev.ifp this.1 (Ev.ifp this.2 ?_)
  by_cases hx : x = 32
  ·refine Ev.bind (a := true) (Ev.const ((HasPrefix_one _ 32 (by decide)).trans ?_)) (Ev.ifp rfl ?_)
   ·rw [ns_from h]; exact congrArg some (decide_eq_true hx)
   ·rw [w_next hs h, sk_cons, if_pos hx]
    exact skip_to hs l (tl_suf h)
  ·refine Ev.bind (a := false) (Ev.const ((HasPrefix_one _ 32 (by decide)).trans ?_)) (Ev.ifn (by decide) ?_)
   ·rw [ns_from h]; exact congrArg some (decide_eq_false hx)
   ·rw [sk_cons, if_neg hx]; exact Ev.now _
def sgn (s : ByteArray) (g : List Int) (w : Un) (e p : Int) : List Int → Rd × Int
 | [] => (⟨po s [], w, e, p⟩, 0)
 | x :: l => if x ∈ g then (⟨po s l, w, e, p⟩, x) else (⟨po s (x :: l), w, e, p⟩, 0)
theorem sgn_yes {g : List Int} {x : Int} {l : List Int} (h : x ∈ g) : sgn s g w e p (x :: l) = (⟨po s l, w, e, p⟩, x) := if_pos h
theorem sgn_no {g : List Int} {x : Int} {l : List Int} (h : ¬ x ∈ g) : sgn s g w e p (x :: l) = (⟨po s (x :: l), w, e, p⟩, 0) := if_neg h
theorem sign_to (hs : s.size ≤ 1000000) (g : ByteArray) (h : u <:+ ns s) : Ev (fun k => unit_reader_sign.f k s ⟨po s u, w, e, p⟩ g) (sgn s (ns g) w e p (sk u)) := by
 unfold unit_reader_sign.f
 refine Ev.bind (skip_to hs u h) ?_
 have h' := (sk_suf u).trans h
 cases hu : sk u with
 | nil => exact Ev.ifp po_nil (Ev.now _)
 | cons x l =>
  rw [hu] at h'
  have r1 := po_range h'
  have r2 := po_range (tl_suf h')
  have r3 : po s l = po s (x :: l) + 1 := po_cons
  refine Ev.ifn (by have := @po_lt s x l; show ¬ po s (x :: l) = _; omega) (Ev.ifp r1.1 ?_)
  simp only [w_next hs h']
  refine Ev.ifp (by omega) (Ev.ifp r2.2 ?_)
  have hm := ns_mid h' (n := 1) (by simp)
  have e1 : ns (s.extract (po s (x :: l)).toNat (po s l).toNat) = [x] := hm
  have e2 : (s.extract (po s (x :: l)).toNat (po s l).toNat).size = 1 := by rw [ns_size, e1]; rfl
  have e3 : wrap64 (po s l - 1) = po s (x :: l) := by rw [w64 (by omega) (by omega)]; omega
  refine Ev.bind (Ev.const ((Contains_one g _ e2).trans (congrArg (fun z => some (decide (hd z ∈ ns g))) e1))) ?_
  by_cases hx : x ∈ ns g
  ·refine Ev.ifp (decide_eq_true hx) ?_
   rw [e3]
   refine Ev.ifp r1.1 (Ev.ifp po_lt (Ev.const ?_))
   rw [bt_po h']
   exact congrArg some (if_pos hx).symm
  ·refine Ev.ifn (by rw [show hd [x] = x from rfl, decide_eq_false hx]; decide) (Ev.const ?_)
   exact congrArg some (if_neg hx).symm
def sg2 (m : Bool) (d : Int) : Int := if m then -d else d
def ends (s : ByteArray) (w : Un) (p : Int) (m : Bool) (c : Int) (y : Int × List Int) : Rd × Int := if c = 0 ∨ dgt (hd y.2) = true then (⟨po s y.2, w, 12, po s y.2⟩, sg2 m y.1) else (⟨po s y.2, w, 0, p⟩, sg2 m y.1)
theorem if_sg (m : Bool) {d : Int} (hd : 0 ≤ d ∧ d ≤ 100000) (y : Rd) : (if m = true then (some (y, wrap64 (-d))) else (some (y, d)) : Option (Rd × Int)) = some (y, sg2 m d) := by
 cases m
 ·rfl
 ·show some (y, wrap64 (-d)) = _
  rw [w64 (by omega) (by omega)]; rfl
theorem end_to {y : List Int} (h : y <:+ ns s) (m : Bool) {d c : Int} (hd' : 0 ≤ d ∧ d ≤ 100000) : unit_reader_exponent.e s m ⟨po s y, w, 0, p⟩ d c = some (ends s w p m c (d, y)) := by
 unfold unit_reader_exponent.e ends
 have hf : ∀ a b : Int, unit_reader_fails.f ⟨po s y, w, 0, p⟩ a b = some ⟨po s y, w, a, b⟩ := fun a b => rfl
 have r := po_range h
 by_cases c1 : c = 0
 ·rw [if_pos c1, hf, Option.bind_some, if_sg m hd', if_pos (.inl c1)]
 rw [if_neg c1]
 cases y with
 | nil =>
  rw [if_neg (show ¬ po s [] < (s.size : Int) by rw [po_nil]; omega), if_sg m hd', if_neg]
  rintro (h1 | h1)
  ·exact c1 h1
  ·cases h1
 | cons x l =>
  rw [if_pos po_lt, if_pos r.1, bt_po h, digit_eq, Option.bind_some]
  by_cases c2 : dgt x = true
  ·rw [if_pos c2, hf, Option.bind_some, if_sg m hd', if_pos (.inr c2)]
  ·rw [if_neg c2, if_sg m hd', if_neg]
   rintro (h1 | h1)
   ·exact c1 h1
   ·exact c2 h1
def bd (n : Nat) : Int := if n = 3 then 1 else if n = 2 then 10 else if n = 1 then 100 else 1000
theorem bd_range (n : Nat) : 1 ≤ bd n ∧ bd n ≤ 1000 := by
 unfold bd
 by_cases h1 : n = 3
 ·rw [if_pos h1]; omega
 rw [if_neg h1]
 by_cases h2 : n = 2
 ·rw [if_pos h2]; omega
 rw [if_neg h2]
 by_cases h3 : n = 1
 ·rw [if_pos h3]; omega
 ·rw [if_neg h3]; omega
theorem bd_next {n : Nat} (hn : n + 1 ≤ 3) {d x : Int} (hd : 0 ≤ d ∧ d < bd (n + 1)) (hx : dgt x = true) : 0 ≤ 10 * d + (x - 48) ∧ 10 * d + (x - 48) < bd n := by
 unfold dgt at hx
 simp only [Bool.and_eq_true, decide_eq_true_eq] at hx
 have : n = 0 ∨ n = 1 ∨ n = 2 := by omega
 rcases this with rfl | rfl | rfl <;> (simp only [bd] at hd ⊢; simp at hd ⊢; omega)
theorem digits_to (hs : s.size ≤ 1000000) (m : Bool) : ∀ (n : Nat), n ≤ 3 → ∀ (u : List Int), u <:+ ns s → ∀ d : Int, 0 ≤ d ∧ d < bd n → Ev (fun k => unit_reader_exponent.l0 k s m ⟨po s u, w, 0, p⟩ d (3 - (n : Int))) (ends s w p m (3 - (n : Int) + (u.length - (xd n d u).2.length)) (xd n d u))
 | 0, hn, u, h, d, hb => by
  refine Ev.succ ?_
  simp only [unit_reader_exponent.l0]
  refine Ev.ifn (by omega) (Ev.const ((end_to h m (by have := bd_range 0; omega)).trans ?_))
  simp only [xd]
  congr 2; omega
 | n + 1, hn, [], h, d, hb => by
  refine Ev.succ ?_
  simp only [unit_reader_exponent.l0]
  refine Ev.ifp (by omega) (Ev.ifn (by rw [po_nil]; omega) (Ev.const ((end_to h m (by have := bd_range (n + 1); omega)).trans ?_)))
  simp only [xd]
  congr 2; omega
 | n + 1, hn, x :: l, h, d, hb => by
  have r := po_range h
  have hx := suf_byte h
  refine Ev.succ ?_
  simp only [unit_reader_exponent.l0]
  refine Ev.ifp (by omega) (Ev.ifp po_lt (Ev.ifp r.1 ?_))
  rw [bt_po h]
  refine Ev.bind (Ev.const (digit_eq x)) ?_
  by_cases c : dgt x = true
  ·refine Ev.ifp c ?_
   have hb' := bd_next hn hb c
   have hr := bd_range n
   have hc : 48 ≤ x ∧ x ≤ 57 := by unfold dgt at c; simpa using c
   have hr2 := bd_range (n + 1)
   have e1 : wrap64 (wrap64 (10 * d) + (x - 48) % 256) = 10 * d + (x - 48) := by rw [w64 (x := 10 * d) (by omega) (by omega), w64 (by omega) (by omega)]; omega
   have e2 : wrap64 (3 - ((n + 1 : Nat) : Int) + 1) = 3 - (n : Int) := by rw [w64 (by omega) (by omega)]; omega
   rw [w_next hs h, e1, e2, xd_cons, if_pos c]
   have := digits_to hs m n (by omega) l (tl_suf h) _ hb'
   have hl := (xd_suf n (10 * d + (x - 48)) l).length_le
   have e3 : (3 : Int) - ((n + 1 : Nat) : Int) + (((x :: l).length : Nat) - ((xd n (10 * d + (x - 48)) l).2.length : Nat)) = 3 - (n : Int) + ((l.length : Nat) - ((xd n (10 * d + (x - 48)) l).2.length : Nat)) := by simp only [List.length_cons]; omega
   rw [e3]
   exact this
  ·refine Ev.ifn c (Ev.const ((end_to h m (by have := bd_range (n + 1); omega)).trans ?_))
   rw [xd_cons, if_neg c]
   congr 2; simp only []; omega
def exR (s : ByteArray) (w : Un) (p : Int) : List Int ⊕ (Int × List Int) → Rd × Int → Prop
 | .inl a, R => R.1 = ⟨po s a, w, 12, po s a⟩
 | .inr y, R => R = (⟨po s y.2, w, 0, p⟩, y.1)
theorem exs_to (hs : s.size ≤ 1000000) {u : List Int} (h : u <:+ ns s) (m : Bool) : ∃ R, Ev (fun k => unit_reader_exponent.l0 k s m ⟨po s u, w, 0, p⟩ 0 0) R ∧ exR s w p (exs m u) R := by
 refine ⟨_, digits_to hs m 3 (Nat.le_refl _) u h 0 (by decide), ?_⟩
 unfold exs ends
 have hl := (xd_suf 3 0 u).length_le
 by_cases c : (xd 3 0 u).2.length = u.length ∨ dgt (hd (xd 3 0 u).2) = true
 ·have c2 : (3 : Int) - ((3 : Nat) : Int) + ((u.length : Nat) - ((xd 3 0 u).2.length : Nat)) = 0 ∨ dgt (hd (xd 3 0 u).2) = true := by
   rcases c with c | c
   ·left; omega
   ·exact .inr c
  rw [if_pos c, if_pos c2]
  rfl
 ·have c2 : ¬ ((3 : Int) - ((3 : Nat) : Int) + ((u.length : Nat) - ((xd 3 0 u).2.length : Nat)) = 0 ∨ dgt (hd (xd 3 0 u).2) = true) := by
   rintro (h1 | h1)
   ·exact c (.inl (by omega))
   ·exact c (.inr h1)
  rw [if_neg c, if_neg c2]
  rfl
theorem ns1 (c : UInt8) : ns (⟨#[c]⟩ : ByteArray) = [(c.toNat : Int)] := rfl
theorem expo_to (hs : s.size ≤ 1000000) (h : u <:+ ns s) : ∃ R, Ev (fun k => unit_reader_exponent.f k s ⟨po s u, w, 0, p⟩) R ∧ exR s w p (ex u) R := by
 have h1 := (sk_suf u).trans h
 have s1 := sign_to (u := u) (w := w) (e := 0) (p := p) hs ⟨#[94]⟩ h
 rw [ns1] at s1
 cases hu : sk u with
 | nil =>
  rw [hu] at s1
  refine ⟨(⟨po s [], w, 0, p⟩, 1), ?_, ?_⟩
  ·unfold unit_reader_exponent.f
   exact Ev.bind s1 (Ev.ifp rfl (Ev.now _))
  ·unfold ex; rw [hu]; rfl
 | cons x l =>
  rw [hu] at s1 h1
  by_cases hx : x = 94
  ·subst hx
   have e1 : sgn s [((94 : UInt8).toNat : Int)] w 0 p (94 :: l) = (⟨po s l, w, 0, p⟩, 94) := sgn_yes (List.mem_singleton.2 rfl)
   rw [e1] at s1
   have hl := tl_suf h1
   have h2 := (sk_suf l).trans hl
   have s2 := sign_to (u := l) (w := w) (e := 0) (p := p) hs ⟨#[45]⟩ hl
   rw [ns1] at s2
   have ee : ex u = if hd (sk l) = 45 then exs true (sk (sk l).tail) else exs false (sk l) := by
    unfold ex; rw [hu]; exact if_pos rfl
   rw [ee]
   cases hv : sk l with
   | nil =>
    rw [hv] at s2 h2
    obtain ⟨R, hR, hq⟩ := exs_to (w := w) (p := p) hs h2 false
    refine ⟨R, ?_, hq⟩
    unfold unit_reader_exponent.f
    refine Ev.bind s1 (Ev.ifn (show ¬ (94 : Int) = 0 by decide) (Ev.bind s2 (Ev.bind (skip_to hs [] h2) ?_)))
    exact hR
   | cons y t =>
    rw [hv] at s2 h2
    by_cases hy : y = 45
    ·subst hy
     have e2 : sgn s [((45 : UInt8).toNat : Int)] w 0 p (45 :: t) = (⟨po s t, w, 0, p⟩, 45) := sgn_yes (List.mem_singleton.2 rfl)
     rw [e2] at s2
     have ht := tl_suf h2
     obtain ⟨R, hR, hq⟩ := exs_to (w := w) (p := p) hs ((sk_suf t).trans ht) true
     refine ⟨R, ?_, hq⟩
     unfold unit_reader_exponent.f
     refine Ev.bind s1 (Ev.ifn (show ¬ (94 : Int) = 0 by decide) (Ev.bind s2 (Ev.bind (skip_to hs t ht) ?_)))
     exact hR
    ·have e2 : sgn s [((45 : UInt8).toNat : Int)] w 0 p (y :: t) = (⟨po s (y :: t), w, 0, p⟩, 0) := sgn_no (fun h => hy (List.mem_singleton.1 h))
     rw [e2] at s2
     have e3 : sk (y :: t) = y :: t := by rw [← hv, sk_sk]
     obtain ⟨R, hR, hq⟩ := exs_to (w := w) (p := p) hs h2 false
     rw [if_neg (show ¬ hd (y :: t) = 45 from hy)]
     refine ⟨R, ?_, hq⟩
     unfold unit_reader_exponent.f
     have s3 := skip_to (w := w) (e := 0) (p := p) hs (y :: t) h2
     rw [e3] at s3
     refine Ev.bind s1 (Ev.ifn (show ¬ (94 : Int) = 0 by decide) (Ev.bind s2 (Ev.bind s3 ?_)))
     exact hR
  ·have e1 : sgn s [((94 : UInt8).toNat : Int)] w 0 p (x :: l) = (⟨po s (x :: l), w, 0, p⟩, 0) := sgn_no (fun h => hx (List.mem_singleton.1 h))
   rw [e1] at s1
   refine ⟨(⟨po s (x :: l), w, 0, p⟩, 1), ?_, ?_⟩
   ·unfold unit_reader_exponent.f
    exact Ev.bind s1 (Ev.ifp rfl (Ev.now _))
   ·unfold ex; rw [hu, if_neg (show ¬ hd (x :: l) = 94 from hx)]; rfl
end Go.Proofs.YtpchdjdochkjpaaGreatDoor.Lib

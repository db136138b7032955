/- Rational numbers: each is told in one way (core's Rat); what package rat makes of them. · Rational numbers, second part: the reference 07; sums, products and quotients of package rat. · Texts of numbers as they are written: which they are, the longest one that a text begins with. No program in sight. · Powers of ten as rational numbers; digits of numbers, once more. No program in sight. · strings.Cut at one byte. · Rational numbers, third part: which is greater, on which side of 0, the negative; more of the reference 07. · Decimal texts: a rational number times a power of ten, downwards and upwards; a whole number with a point. · Decimal texts as the reference 10 tells them: the same as package decimal's. · Exact texts of rational numbers, and what both readers make of a text. · Both readers of a text say the same; the text of a rational number read again. · The look whether package decimal wakes: it does. · Helps of the laws about decimal texts. · The number that a decimal text tells. · Floor, ceiling and the nearest one of the opposite number; sizes; numbers of texts. · Rational numbers side by side; of a greater number what is rounded down, up, or to the nearest is not less. -/
import Derived.Test.YtjgmmaeafodpmaaGreatDoorMl
import Derived.Test.YtjgmmaeafodpmaaGreatDoorMx
set_option linter.unusedVariables false
set_option linter.unusedSimpArgs false
namespace Go.Proofs.YtjgmmaeafodpmaaGreatDoor.Lib
open Go.RowKit Go.Proofs.YtjgmmaeafodpmaaGreatDoorW.PrintWords Go.Proofs.YtjgmmaeafodpmaaGreatDoorW.PrintMore Go.Proofs.YtjgmmaeafodpmaaGreatDoor.P
variable {m p : Nat} {a b c d l : List Int} {x y : Bool} {q r : Rat}
def Qs (q : Rat) : Prop := q.num.natAbs < Bp 64 ∧ q.den < Bp 64
instance (q : Rat) : Decidable (Qs q) := inferInstanceAs (Decidable (_ ∧ _))
def qr (q : Rat) : Bool × List Int × List Int × Int := if Qs q then ((cz q.num).1, (cz q.num).2, L q.den, 0) else (false, [], [], 2)
theorem qr_yes (h : Qs q) : qr q = ((cz q.num).1, (cz q.num).2, L q.den, 0) := if_pos h
theorem qr_no (h : ¬ Qs q) : qr q = (false, [], [], 2) := if_neg h
theorem len_gt {n m : Nat} : ((L n).length : Int) > m ↔ ¬ n < Bp m := by
  have : (L n).length ≤ m ↔ n < Bp m := len_le_iff
  omega
theorem len0 {n : Nat} : ((L n).length : Int) = 0 ↔ n = 0 := by
  have := @L_len_zero n
  omega
theorem mk_num {z : Int} {n : Nat} (h : n ≠ 0) : (mkRat z n).num.natAbs = z.natAbs / Nat.gcd z.natAbs n := by
  rw [Rat.num_mkRat, if_neg h, Nat.gcd_comm]
  exact Int.natAbs_ediv_of_dvd (Int.ofNat_dvd_left.2 (Nat.gcd_dvd_left _ _))
theorem mk_den {z : Int} {n : Nat} (h : n ≠ 0) : (mkRat z n).den = n / Nat.gcd z.natAbs n := by
  rw [Rat.den_mkRat, if_neg h, Nat.gcd_comm]
theorem mk_neg {z : Int} {n : Nat} (h : n ≠ 0) : decide (z < 0) = decide ((mkRat z n).num < 0) := by
  rw [Rat.num_mkRat, if_neg h]
  have hg : 0 < Nat.gcd n z.natAbs := Nat.gcd_pos_of_pos_left _ (by omega)
  obtain ⟨c, hc⟩ : ((Nat.gcd n z.natAbs : Nat) : Int) ∣ z := Int.ofNat_dvd_left.2 (Nat.gcd_dvd_right _ _)
  generalize Nat.gcd n z.natAbs = g at hg hc ⊢
  subst hc
  have e : (g : Int) * c / (g : Int) = c := Int.mul_ediv_cancel_left _ (by omega)
  rw [e, decide_eq_decide]
  have hg' : (0 : Int) < g := by omega
  constructor
  · intro hlt
    rcases Int.lt_or_le c 0 with hc | hc
    · exact hc
    · have := Int.mul_nonneg (Int.le_of_lt hg') hc; omega
  · intro hc
    exact Int.mul_neg_of_pos_of_neg hg' hc
theorem gcd_lt {z : Int} {n m : Nat} (h : n ≠ 0) (hn : n < Bp m) : Nat.gcd z.natAbs n < Bp m := Nat.lt_of_le_of_lt (Nat.le_of_dvd (by omega) (Nat.gcd_dvd_right _ _)) hn
theorem gcd_ne {z : Int} {n : Nat} (h : n ≠ 0) : Nat.gcd z.natAbs n ≠ 0 := fun e => h (Nat.eq_zero_of_gcd_eq_zero_right e)
theorem qOf_to (sa : S m a) (sb : S m b) (hm : m ≤ 800000) (h0 : V b ≠ 0) (hq : mkRat (vz x a) (V b) = q) : Ev (fun k => rat_Of.f k x a b) (qr q) := by
  unfold rat_Of.f
  refine Ev.bind (wTrim_to sa (by omega) rfl) (Ev.bind (Trim_to sb (by omega) rfl) ?_)
  refine Ev.ifn (by rw [len0]; exact h0) ?_
  have sz : S m (cz (vz x a)).2 := S_cz (S_vz x sa)
  have sb' : S m (L (V b)) := S_L sb.v
  have ez : V (cz (vz x a)).2 = (vz x a).natAbs := by rw [cz2, V_L]
  refine Ev.bind (Gcd_to sz sb' hm (n := Nat.gcd (vz x a).natAbs (V b)) (by rw [ez, V_L])) ?_
  have sg : S m (L (Nat.gcd (vz x a).natAbs (V b))) := S_L (gcd_lt h0 sb.v)
  have g0 : V (L (Nat.gcd (vz x a).natAbs (V b))) ≠ 0 := by rw [V_L]; exact gcd_ne h0
  refine Ev.bind (Rem_to sz sg hm hm g0 (q := q.num.natAbs) (by rw [ez, V_L, ← hq, mk_num h0]) rfl) ?_
  refine Ev.bind (Rem_to sb' sg hm hm g0 (q := q.den) (by rw [V_L, V_L, ← hq, mk_den h0]) rfl) ?_
  by_cases h1 : q.num.natAbs < Bp 64
  · refine Ev.ifn (fun e => len_gt.1 e h1) ?_
    by_cases h2 : q.den < Bp 64
    · refine Ev.ifn (fun e => len_gt.1 e h2) (Ev.const ?_)
      rw [qr_yes ⟨h1, h2⟩, cz1, cz1, mk_neg h0, hq]; rfl
    · exact Ev.ifp (len_gt.2 h2) (Ev.const (by rw [qr_no (fun e => h2 e.2)]))
  · exact Ev.ifp (len_gt.2 h1) (Ev.const (by rw [qr_no (fun e => h1 e.1)]))
theorem qOf_no (sa : S m a) (sb : S m b) (hm : m ≤ 800000) (h0 : V b = 0) : Ev (fun k => rat_Of.f k x a b) (false, [], [], 3) := by
  unfold rat_Of.f
  refine Ev.bind (wTrim_to sa (by omega) rfl) (Ev.bind (Trim_to sb (by omega) rfl) ?_)
  exact Ev.ifp (by rw [len0]; exact h0) (Ev.now _)
theorem last_zero {l : List Int} (hw : W l) (h0 : l.length ≠ 0) : l.getD (l.length - 1) 0 = 0 ↔ ¬ l = L (V l) := by
  constructor
  · intro h e
    have hv : V l ≠ 0 := fun z => h0 (by rw [e, z, L_zero]; rfl)
    have := L_last hv
    rw [← e] at this
    exact this h
  · intro h
    by_cases hu : U l = l.length
    · exact absurd (by have := take_U hw; rw [hu, List.take_length] at this; exact this) h
    · have := U_le hw
      exact tail_zero hw (by omega)
theorem trimmed_to (s : S m l) (hm : m ≤ 1000000) : rat_trimmed.f l = some (decide (l = L (V l))) := by
  unfold rat_trimmed.f
  by_cases h0 : l.length = 0
  · obtain rfl := List.eq_nil_of_length_eq_zero h0
    rw [if_pos (by decide), V_nil, L_zero]; rfl
  · have hl := s.2
    rw [if_neg (by omega), w64_pred (by omega) (by omega), if_pos (by omega), if_pos (by omega), rd_nat]
    have := last_zero s.1 h0
    by_cases e : l = L (V l)
    · rw [decide_eq_true e]
      have : l.getD (l.length - 1) 0 ≠ 0 := fun z => this.1 z e
      rw [bne_iff_ne.2 this]
    · rw [decide_eq_false e]
      have := this.2 e
      rw [this]; rfl
def gq (x : Bool) (a b : List Int) : Bool :=
  decide (a = L (V a)) && decide (b = L (V b)) && decide (V b ≠ 0) && decide (V a < Bp 64) && decide (V b < Bp 64) && !(x && decide (V a = 0)) && decide (Nat.gcd (V a) (V b) = 1)
theorem gq_spec (h : gq x a b = true) : ∃ q : Rat, Qs q ∧ x = (cz q.num).1 ∧ a = (cz q.num).2 ∧ b = L q.den := by
  simp only [gq, Bool.and_eq_true, decide_eq_true_eq, Bool.not_eq_true', Bool.and_eq_false_iff, decide_eq_false_iff_not] at h
  obtain ⟨⟨⟨⟨⟨⟨h1, h2⟩, h3⟩, h4⟩, h5⟩, h6⟩, h7⟩ := h
  have e : (vz x a).natAbs = V a := vz_abs x a
  refine ⟨⟨vz x a, V b, h3, show Nat.gcd (vz x a).natAbs (V b) = 1 by rw [e]; exact h7⟩, ⟨show (vz x a).natAbs < Bp 64 by rw [e]; exact h4, h5⟩, ?_, ?_, h2⟩
  · show x = decide (vz x a < 0)
    cases x with
    | false => exact (decide_eq_false (by rw [vz_f]; omega)).symm
    | true =>
      have : V a ≠ 0 := by
        rcases h6 with h6 | h6
        · cases h6
        · exact h6
      exact (decide_eq_true (by rw [vz_t]; omega)).symm
  · show a = L (vz x a).natAbs
    rw [e]; exact h1
theorem gq_cq (h : Qs q) : gq (cz q.num).1 (cz q.num).2 (L q.den) = true := by
  have h1 := q.reduced
  have h2 := q.den_nz
  have h3 : q.num.natAbs.gcd q.den = 1 := h1
  simp only [gq, cz1, cz2, V_L, Bool.and_eq_true, decide_eq_true_eq, Bool.not_eq_true', Bool.and_eq_false_iff, decide_eq_false_iff_not, h.1, h.2, h3]
  refine ⟨⟨⟨⟨⟨⟨trivial, trivial⟩, h2⟩, trivial⟩, trivial⟩, ?_⟩, trivial⟩
  by_cases z : q.num < 0
  · right; omega
  · left; exact z
theorem gcd_one_cmp (n : Nat) : (cmpI n 1 == 0) = decide (n = 1) := by
  rcases cmpI_range n 1 with ⟨h, h'⟩ | ⟨h, h'⟩ | ⟨h, h'⟩ <;> rw [h]
  · rw [decide_eq_false (by omega)]; rfl
  · rw [decide_eq_true (by omega)]; rfl
  · rw [decide_eq_false (by omega)]; rfl
theorem canon_gt {l : List Int} {n : Nat} (e : l = L (V l)) : (l.length : Int) > n ↔ ¬ V l < Bp n := by
  have := @len_gt (V l) n
  rw [← e] at this
  exact this
theorem canon0 {l : List Int} (e : l = L (V l)) : (l.length : Int) = 0 ↔ V l = 0 := by
  have := @len0 (V l)
  rw [← e] at this
  exact this
theorem qGood_ev (sa : S m a) (sb : S m b) (hm : m ≤ 800000) : Ev (fun k => rat_Good.f k x a b) (gq x a b) := by
  have jt : Ev (fun k => rat_Good.j0 k a b true) false := Ev.succ (by simp only [rat_Good.j0]; exact Ev.ifp trivial (Ev.now _))
  have jf : Ev (fun k => rat_Good.j0 k a b false) (decide (Nat.gcd (V a) (V b) = 1)) := Ev.succ (by
    simp only [rat_Good.j0]
    refine Ev.ifn (by decide) (Ev.bind (Gcd_to sa sb hm rfl) (Ev.bind (Of_to (by omega) (by omega) (n := 1) rfl) ?_))
    have hg : Nat.gcd (V a) (V b) < Bp m ∨ V a = 0 ∧ V b = 0 := by
      by_cases z : V b = 0
      · by_cases z' : V a = 0
        · exact .inr ⟨z', z⟩
        · left; rw [z, Nat.gcd_zero_right]; exact sa.v
      · left; exact Nat.lt_of_le_of_lt (Nat.le_of_dvd (by omega) (Nat.gcd_dvd_right _ _)) sb.v
    have sg : S (m + 1) (L (Nat.gcd (V a) (V b))) := by
      rcases hg with hg | ⟨e1, e2⟩
      · exact S_L (lt_up hg (by omega))
      · rw [e1, e2]; exact S_L Bp_pos
    refine Ev.bind (Cmp_to sg (S_L (one_lt_Bp (by omega))) (by omega) rfl) (Ev.const ?_)
    rw [V_L, V_L, gcd_one_cmp])
  unfold rat_Good.f
  rw [trimmed_to sa (by omega), trimmed_to sb (by omega)]
  simp only [Option.bind_some]
  unfold gq
  by_cases h1 : a = L (V a)
  · rw [decide_eq_true h1]
    refine Ev.ifp rfl ?_
    by_cases h2 : b = L (V b)
    · rw [decide_eq_true h2]
      refine Ev.ifp rfl ?_
      by_cases h3 : V b = 0
      · rw [decide_eq_false (show ¬ V b ≠ 0 by omega)]
        exact Ev.ifp ((canon0 h2).2 h3) (by simpa using jt)
      · rw [decide_eq_true (show V b ≠ 0 from h3)]
        refine Ev.ifn (fun e => h3 ((canon0 h2).1 e)) ?_
        by_cases h5 : V b < Bp 64
        · refine Ev.ifn (fun e => (canon_gt h2).1 e h5) ?_
          by_cases h4 : V a < Bp 64
          · refine Ev.ifn (fun e => (canon_gt h1).1 e h4) ?_
            rw [decide_eq_true h4, decide_eq_true h5]
            cases x with
            | false => exact Ev.ifn (by decide) (by simpa using jf)
            | true =>
              refine Ev.ifp rfl ?_
              have e : ((a.length : Int) == 0) = decide (V a = 0) := by
                rw [Bool.eq_iff_iff, beq_iff_eq, decide_eq_true_eq]; exact canon0 h1
              rw [e]
              by_cases h6 : V a = 0
              · rw [decide_eq_true h6]; simpa using jt
              · rw [decide_eq_false h6]; simpa using jf
          · rw [decide_eq_false h4]
            exact Ev.ifp ((canon_gt h1).2 h4) (by simpa using jt)
        · rw [decide_eq_false h5]
          exact Ev.ifp ((canon_gt h2).2 h5) (by simpa using jt)
    · rw [decide_eq_false h2]
      exact Ev.ifn (by decide) (by simpa using jt)
  · rw [decide_eq_false h1]
    exact Ev.ifn (by decide) (by simpa using jt)
theorem Qs_a (h : Qs q) : S 64 (cz q.num).2 := S_cz h.1
theorem Qs_b (h : Qs q) : S 64 (L q.den) := S_L h.2
theorem qGood_yes (h : Qs q) : Ev (fun k => rat_Good.f k (cz q.num).1 (cz q.num).2 (L q.den)) true := Ev.eq (qGood_ev (Qs_a h) (Qs_b h) (by omega)) (gq_cq h)
end Go.Proofs.YtjgmmaeafodpmaaGreatDoor.Lib
set_option linter.unusedVariables false
set_option linter.unusedSimpArgs false
namespace Go.Proofs.YtjgmmaeafodpmaaGreatDoor.Lib
open Go.RowKit Go.Proofs.YtjgmmaeafodpmaaGreatDoorW.PrintWords Go.Proofs.YtjgmmaeafodpmaaGreatDoorW.PrintMore Go.Proofs.YtjgmmaeafodpmaaGreatDoor.P
variable {m p : Nat} {a b c d l : List Int} {x y : Bool} {q r : Rat}
theorem keepRat_to (sa : S m a) (sb : S m b) (hm : m ≤ 1000000) (h : (x, a, b) = (y, c, d)) : Ev (fun k => steelyardkeep_Rat.f k x a b y c d) true := by
  have h1 := Prod.mk.inj h
  have h2 := Prod.mk.inj h1.2
  rw [← h1.1, ← h2.1, ← h2.2]
  unfold steelyardkeep_Rat.f
  exact Ev.bind (keepInt_to sa hm rfl) (Ev.ifp rfl (Ev.bind (keep_to sb hm rfl) (Ev.now _)))
theorem keepQ_to (h : Qs q) (e : q = r) : Ev (fun k => steelyardkeep_Rat.f k (cz q.num).1 (cz q.num).2 (L q.den) (cz r.num).1 (cz r.num).2 (L r.den)) true := by
  subst e; exact keepRat_to (Qs_a h) (Qs_b h) (by omega) rfl
theorem rtrimmed_to (s : S m l) (hm : m ≤ 1000000) : steelyardref07_trimmed.f l = some (decide (l = L (V l))) := by
  unfold steelyardref07_trimmed.f
  by_cases h0 : l.length = 0
  · obtain rfl := List.eq_nil_of_length_eq_zero h0
    rw [if_pos (by decide), V_nil, L_zero]; rfl
  · have hl := s.2
    rw [if_neg (by omega), w64_pred (by omega) (by omega), if_pos (by omega), if_pos (by omega), rd_nat]
    have := last_zero s.1 h0
    by_cases e : l = L (V l)
    · rw [decide_eq_true e]
      have : l.getD (l.length - 1) 0 ≠ 0 := fun z => this.1 z e
      rw [bne_iff_ne.2 this]
    · rw [decide_eq_false e]
      have := this.2 e
      rw [this]; rfl
theorem one_limb (n : Nat) (h1 : ((L n).length : Int) = 1) : (rd (L n) 0 == 1) = decide (n = 1) := by
  have hn : n ≠ 0 := fun e => by rw [e, L_zero] at h1; simp at h1
  have hb : n < 4294967296 := by
    have h : (L n).length ≤ 1 := by omega
    have := lt_of_len h
    simpa using this
  have e0 : rd (L n) 0 = (L n).getD 0 0 := rd_nat _ 0
  rw [e0, L_one hn hb, Bool.eq_iff_iff, beq_iff_eq, decide_eq_true_eq]
  simp
  omega
theorem gcd_one_len {n : Nat} (h : ¬ ((L n).length : Int) = 1) : ¬ n = 1 := fun e => h (by rw [e, L_one (by omega) (by omega)]; rfl)
theorem rGood_ev (sa : S m a) (sb : S m b) (hm : m ≤ 100000) : Ev (fun k => steelyardref07_Good.f k x a b) (gq x a b) := by
  have hg : V b ≠ 0 → Ev (fun k => (steelyardref03_Gcd.f k a b).bind fun t => if (t.length : Int) = 1 then (if 0 < (t.length : Int) then some (rd t 0 == 1) else none) else some false) (decide (Nat.gcd (V a) (V b) = 1)) := fun h3 => by
    refine Ev.bind (rGcd_to sa sb hm rfl) ?_
    by_cases h : ((L (Nat.gcd (V a) (V b))).length : Int) = 1
    · exact Ev.ifp h (Ev.ifp (by omega) (Ev.const (by rw [one_limb _ h])))
    · exact Ev.ifn h (Ev.const (by rw [decide_eq_false (gcd_one_len h)]))
  unfold steelyardref07_Good.f
  rw [rtrimmed_to sa (by omega), rtrimmed_to sb (by omega)]
  simp only [Option.bind_some]
  unfold gq
  by_cases h1 : a = L (V a)
  · rw [decide_eq_true h1]
    refine Ev.ifp rfl ?_
    by_cases h2 : b = L (V b)
    · rw [decide_eq_true h2]
      refine Ev.ifp rfl ?_
      by_cases h3 : V b = 0
      · rw [decide_eq_false (show ¬ V b ≠ 0 by omega)]
        exact Ev.ifp ((canon0 h2).2 h3) (by simpa using Ev.now false)
      · rw [decide_eq_true (show V b ≠ 0 from h3)]
        refine Ev.ifn (fun e => h3 ((canon0 h2).1 e)) ?_
        have tail : Ev (fun k => if (a.length : Int) > 64 then some false else if (b.length : Int) > 64 then some false else (steelyardref03_Gcd.f k a b).bind fun t => if (t.length : Int) = 1 then (if 0 < (t.length : Int) then some (rd t 0 == 1) else none) else some false) (decide (V a < Bp 64) && decide (V b < Bp 64) && decide (Nat.gcd (V a) (V b) = 1)) := by
          by_cases h4 : V a < Bp 64
          · refine Ev.ifn (fun e => (canon_gt h1).1 e h4) ?_
            by_cases h5 : V b < Bp 64
            · refine Ev.ifn (fun e => (canon_gt h2).1 e h5) ?_
              rw [decide_eq_true h4, decide_eq_true h5]
              simpa using hg h3
            · rw [decide_eq_false h5]
              exact Ev.ifp ((canon_gt h2).2 h5) (by simpa using Ev.now false)
          · rw [decide_eq_false h4]
            exact Ev.ifp ((canon_gt h1).2 h4) (by simpa using Ev.now false)
        cases x with
        | false => exact Ev.ifn (by decide) (by simpa using tail)
        | true =>
          refine Ev.ifp rfl ?_
          by_cases h6 : V a = 0
          · exact Ev.ifp ((canon0 h1).2 h6) (by rw [decide_eq_true h6]; simpa using Ev.now false)
          · refine Ev.ifn (fun e => h6 ((canon0 h1).1 e)) ?_
            rw [decide_eq_false h6]
            simpa using tail
    · rw [decide_eq_false h2]
      exact Ev.ifn (by decide) (by simpa using Ev.now false)
  · rw [decide_eq_false h1]
    exact Ev.ifn (by decide) (by simpa using Ev.now false)
theorem rGood_yes (h : Qs q) : Ev (fun k => steelyardref07_Good.f k (cz q.num).1 (cz q.num).2 (L q.den)) true := Ev.eq (rGood_ev (Qs_a h) (Qs_b h) (by omega)) (gq_cq h)
theorem vz_sign {z : Int} {n : Nat} (h : n ≠ 0) (hq : mkRat z n = q) : vz (decide (z < 0)) (L q.num.natAbs) = q.num := by
  rw [vz_if, mk_neg h, hq]
  by_cases c : q.num < 0
  · rw [decide_eq_true c]; simp; omega
  · rw [decide_eq_false c]; simp; omega
theorem rWide_to (sa : S m a) (sb : S m b) (hm : m ≤ 100000) (h0 : V b ≠ 0) (hq : mkRat (vz x a) (V b) = q) : Ev (fun k => steelyardref07_Wide.f k x a b) ((cz q.num).1, (cz q.num).2, L q.den) := by
  unfold steelyardref07_Wide.f
  have sz : S m (cz (vz x a)).2 := S_cz (S_vz x sa)
  have ez : V (cz (vz x a)).2 = (vz x a).natAbs := by rw [cz2, V_L]
  have sg : S m (L (Nat.gcd (vz x a).natAbs (V b))) := S_L (gcd_lt h0 sb.v)
  have g0 : V (L (Nat.gcd (vz x a).natAbs (V b))) ≠ 0 := by rw [V_L]; exact gcd_ne h0
  have hn : q.num.natAbs < Bp m := by rw [← hq, mk_num h0]; exact Nat.lt_of_le_of_lt (Nat.div_le_self _ _) (S_vz x sa)
  refine Ev.bind (rZTrim_to sa (by omega) rfl) (Ev.bind (rGcd_to sz sb hm (n := Nat.gcd (vz x a).natAbs (V b)) (by rw [ez])) ?_)
  refine Ev.bind (rRem_to sz sg hm hm g0 (q := q.num.natAbs) (by rw [ez, V_L, ← hq, mk_num h0]) rfl) ?_
  refine Ev.bind (rMake_to (S_L hn) (by omega) (z := q.num) (by rw [cz1]; exact vz_sign h0 hq)) ?_
  refine Ev.bind (rRem_to sb sg hm hm g0 (q := q.den) (by rw [V_L, ← hq, mk_den h0]) rfl) (Ev.now _)
theorem rLimit_to (q : Rat) : steelyardref07_Limit.f (cz q.num).1 (cz q.num).2 (L q.den) = some (qr q) := by
  unfold steelyardref07_Limit.f
  rw [cz2]
  by_cases h1 : q.num.natAbs < Bp 64
  · rw [if_neg (show ¬ ((L q.num.natAbs).length : Int) > 64 from fun e => len_gt.1 e h1)]
    by_cases h2 : q.den < Bp 64
    · rw [if_neg (show ¬ ((L q.den).length : Int) > 64 from fun e => len_gt.1 e h2), qr_yes ⟨h1, h2⟩]; rfl
    · rw [if_pos (show ((L q.den).length : Int) > 64 from len_gt.2 h2), qr_no (fun e => h2 e.2)]
  · rw [if_pos (show ((L q.num.natAbs).length : Int) > 64 from len_gt.2 h1), qr_no (fun e => h1 e.1)]
theorem rWhole_to {v : Int} (h0 : -9223372036854775808 ≤ v) (h1 : v ≤ 9223372036854775807) : Ev (fun k => steelyardref07_Whole.f k v) ((cz v).1, (cz v).2, L 1) := by
  unfold steelyardref07_Whole.f
  exact Ev.bind (rZOf_to h0 h1) (Ev.const (by rw [L_one (by omega) (by omega)]; rfl))
theorem rTimes_to (sa : S m a) (sb : S m b) (sc : S p c) (sd : S p d) (hm : m + p < 90000) (h0 : V b ≠ 0) (h1 : V d ≠ 0) (hq : mkRat (vz x a * vz y c) (V b * V d) = q) :
    Ev (fun k => steelyardref07_Times.f k x a b y c d) ((cz q.num).1, (cz q.num).2, L q.den) := by
  unfold steelyardref07_Times.f
  have b1 : (vz x a * vz y c).natAbs < Bp (m + p) := na_mul (S_vz x sa) (S_vz y sc) (Nat.le_refl _)
  have b2 : V b * V d < Bp (m + p) := lt_mul sb.v sd.v (Nat.le_refl _)
  refine Ev.bind (rZMul_to sa sc (by omega) rfl) (Ev.bind (rMul_to sb sd (by omega) rfl) (Ev.bind (rWide_to (m := m + p) (S_cz b1) (S_L b2) (by omega) (by rw [V_L]; exact Nat.mul_ne_zero h0 h1) (by rw [vz_cz, V_L]; exact hq)) (Ev.now _)))
theorem Qs_int {z : Int} (h : z.natAbs < 18446744073709551616) : Qs (z : Rat) := ⟨lt_num h (by omega), one_lt_Bp (by omega)⟩
theorem By_to {u : Int} {n : Nat} (h0 : -9223372036854775808 ≤ u) (h1 : u ≤ 9223372036854775807) (hn : 0 < n) (h2 : n ≤ 9223372036854775807) (hq : mkRat u n = q) (hs : Qs q) :
    Ev (fun k => steelyardlaw07_By.f k u n) ((cz q.num).1, (cz q.num).2, L q.den) := by
  unfold steelyardlaw07_By.f
  refine Ev.bind (rWhole_to h0 h1) (Ev.bind (rWhole_to (v := (n : Int)) (by omega) (by omega)) ?_)
  have g1 : Ev (fun k => steelyardref07_Good.f k (cz u).1 (cz u).2 (L 1)) true := rGood_yes (q := (u : Rat)) (Qs_int (by omega))
  have g2 : Ev (fun k => steelyardref07_Good.f k (cz (n : Int)).1 (cz (n : Int)).2 (L 1)) true := rGood_yes (q := ((n : Int) : Rat)) (Qs_int (by omega))
  have s1 : S 2 (L 1) := S_L (one_lt_Bp (by omega))
  have su : S 2 (cz u).2 := S_cz (lt_num (by omega) (by omega))
  have sn : S 2 (cz (n : Int)).2 := S_cz (lt_num (by omega) (by omega))
  have hD : Ev (fun k => steelyardref07_Div.f k (cz u).1 (cz u).2 (L 1) (cz (n : Int)).1 (cz (n : Int)).2 (L 1)) (qr q) := by
    unfold steelyardref07_Div.f
    refine Ev.bind g1 (Ev.ifp rfl (Ev.bind g2 (Ev.succ ?_)))
    simp only [steelyardref07_Div.j0]
    refine Ev.ifn (by decide) (Ev.ifn (by rw [cz2, len0]; omega) ?_)
    have e1 : (cz (n : Int)).1 = false := by rw [cz1]; exact decide_eq_false (by omega)
    refine Ev.bind (rMake_to s1 (by omega) (z := 1) (by rw [e1, vz_f, V_L]; rfl)) ?_
    refine Ev.bind (rTimes_to su s1 (S_cz (z := 1) (one_lt_Bp (m := 2) (by omega))) sn (by omega) (by rw [V_L]; omega) (by rw [cz2, V_L]; omega) (q := q) (by rw [vz_cz, vz_cz, V_L, cz2, V_L, Int.mul_one, Nat.one_mul, Int.natAbs_natCast]; exact hq)) ?_
    rw [rLimit_to]
    exact Ev.now _
  refine Ev.bind hD (Ev.const ?_)
  rw [qr_yes hs]
theorem cross_to (h : Qs q) (k : Qs r) : Ev (fun n => rat_cross.f n (cz q.num).1 (cz q.num).2 (L q.den) (cz r.num).1 (cz r.num).2 (L r.den)) (cz (q.num * r.den)) := by
  unfold rat_cross.f
  exact Ev.bind (wMul_to (Qs_a h) (Qs_b k) (by omega) (z := q.num * r.den) (by rw [vz_cz, vz_f, V_L])) (Ev.now _)
theorem na_cross (h : Qs q) (k : Qs r) : (q.num * (r.den : Int)).natAbs < Bp 128 := na_mul h.1 (w := (r.den : Int)) (p := 64) (by rw [Int.natAbs_natCast]; exact k.2) (by omega)
theorem den_mul_ne (q r : Rat) : q.den * r.den ≠ 0 := Nat.mul_ne_zero q.den_nz r.den_nz
theorem qAdd_to (h : Qs q) (k : Qs r) {s : Rat} (e : q + r = s) : Ev (fun n => rat_Add.f n (cz q.num).1 (cz q.num).2 (L q.den) (cz r.num).1 (cz r.num).2 (L r.den)) (qr s) := by
  unfold rat_Add.f
  refine Ev.bind (qGood_yes h) (Ev.ifp rfl (Ev.bind (qGood_yes k) (Ev.succ ?_)))
  simp only [rat_Add.j0]
  refine Ev.ifn (by decide) (Ev.bind (cross_to h k) (Ev.bind (cross_to k h) ?_))
  have b1 : (q.num * (r.den : Int) + r.num * (q.den : Int)).natAbs < Bp 129 := na_add (na_cross h k) (na_cross k h) (by omega)
  refine Ev.bind (wAdd_to (S_cz (na_cross h k)) (S_cz (na_cross k h)) (by omega) (by rw [vz_cz, vz_cz])) ?_
  refine Ev.bind (Mul_to (Qs_b h) (Qs_b k) (by omega) rfl) ?_
  refine Ev.bind (qOf_to (m := 129) (S_cz b1) (S_L (by rw [V_L, V_L]; exact lt_mul h.2 k.2 (by omega))) (by omega) (by rw [V_L, V_L, V_L]; exact den_mul_ne q r) (q := s) (by rw [vz_cz, V_L, V_L, V_L, ← e, Rat.add_def'])) (Ev.now _)
theorem qWhole_to {v : Int} (h0 : -9223372036854775808 ≤ v) (h1 : v ≤ 9223372036854775807) : Ev (fun k => rat_Whole.f k v) ((cz v).1, (cz v).2, L 1) := by
  unfold rat_Whole.f
  exact Ev.bind (wOf_to h0 h1) (Ev.bind (Of_to (by omega) (by omega) (n := 1) rfl) (Ev.now _))
end Go.Proofs.YtjgmmaeafodpmaaGreatDoor.Lib
set_option linter.unusedVariables false
set_option linter.unusedSimpArgs false
namespace Go.Proofs.YtjgmmaeafodpmaaGreatDoor.Lib
open Go.RowKit Go.Proofs.YtjgmmaeafodpmaaGreatDoorW.PrintWords Go.Proofs.YtjgmmaeafodpmaaGreatDoorW.PrintMore
def dg (x : Int) : Bool := decide (48 ≤ x) && decide (x ≤ 57)
def rn : List Int → Nat
  | [] => 0
  | x :: l => if dg x then rn l + 1 else 0
def pl (l : List Int) : Nat := if l.getD 0 0 = 46 ∧ 0 < rn (l.drop 1) then 1 + rn (l.drop 1) else 0
def ex (l : List Int) : Nat :=
  if l.getD 0 0 = 101 then
    (if (l.drop 1).getD 0 0 = 45 then (if rn (l.drop 2) = 0 then 0 else min (rn (l.drop 2)) 3 + 2) else (if rn (l.drop 1) = 0 then 0 else min (rn (l.drop 1)) 3 + 1))
  else 0
def ln (l : List Int) : Nat := if rn l = 0 then 0 else rn l + pl (l.drop (rn l)) + ex (l.drop (rn l + pl (l.drop (rn l))))
def good (l : List Int) : Bool := decide (l ≠ []) && decide (l.length ≤ 400) && decide (ln l = l.length)
structure LitP (l A B E : List Int) (sg : Bool) : Prop where
  ha : Dg A
  ha0 : A ≠ []
  hb : Dg B
  he : Dg E
  hel : E.length ≤ 3
  hs : E = [] → sg = false
  eq : l = A ++ ((if B = [] then [] else 46 :: B) ++ (if E = [] then [] else 101 :: (if sg = true then 45 :: E else E)))
def Stops (T : List Int) : Prop := dg (T.getD 0 0) = false ∧ T.getD 0 0 ≠ 46 ∧ T.getD 0 0 ≠ 101
def tenq (n : Nat) (k : Int) : Rat := if k < 0 then mkRat n (10 ^ (-k).toNat) else mkRat ((n * 10 ^ k.toNat : Nat) : Int) 1
def ek (sg : Bool) (E B : List Int) : Int := (if sg = true then -(pv E : Int) else (pv E : Int)) - B.length
end Go.Proofs.YtjgmmaeafodpmaaGreatDoor.Lib
set_option linter.unusedVariables false
set_option linter.unusedSimpArgs false
namespace Go.Proofs.YtjgmmaeafodpmaaGreatDoor.Lib
open Go.RowKit Go.Proofs.YtjgmmaeafodpmaaGreatDoorW.PrintWords Go.Proofs.YtjgmmaeafodpmaaGreatDoorW.PrintMore
theorem ns_mk (l : List UInt8) : ns (⟨l.toArray⟩ : ByteArray) = l.map fun b => (b.toNat : Int) := rfl
theorem size_ns {s : ByteArray} {l : List Int} (h : ns s = l) : s.size = l.length := by rw [ns_size, h]
theorem ten_ne (j : Nat) : 10 ^ j ≠ 0 := Nat.pos_iff_ne_zero.1 (Nat.pow_pos (by omega))
theorem tx_digit {n : Nat} (h : n < 10) : tx n = [((48 + n : Nat) : Int)] := by
  unfold tx
  by_cases z : n = 0
  · subst z; rfl
  · rw [if_neg z, dl_pos z, show n / 10 = 0 by omega, dl_zero, show n % 10 = n by omega]; rfl
theorem Qs_mk {z : Int} {n : Nat} (h0 : n ≠ 0) (h : z.natAbs < Bp 64) (h1 : n < Bp 64) : Qs (mkRat z n) := by
  refine ⟨?_, ?_⟩
  · rw [mk_num h0]; exact Nat.lt_of_le_of_lt (Nat.div_le_self _ _) h
  · rw [mk_den h0]; exact Nat.lt_of_le_of_lt (Nat.div_le_self _ _) h1
theorem mk_div (z : Int) (n : Nat) : mkRat z n = (z : Rat) / (n : Rat) := by rw [← Rat.divInt_ofNat, Rat.divInt_eq_div]; rfl
theorem tx_ne (n : Nat) : tx n ≠ [] := fun e => by have := tx_pos n; rw [e] at this; simp at this
end Go.Proofs.YtjgmmaeafodpmaaGreatDoor.Lib
set_option linter.unusedVariables false
set_option linter.unusedSimpArgs false
namespace Go.Proofs.YtjgmmaeafodpmaaGreatDoor.Lib
open Go.RowKit Go.Proofs.YtjgmmaeafodpmaaGreatDoorW.PrintWords Go.Proofs.YtjgmmaeafodpmaaGreatDoorW.PrintMore Go.Proofs.YtjgmmaeafodpmaaGreatDoor.P
def fi (c : Int) (l : List Int) : Nat := l.findIdx (fun x => decide (x = c))
theorem fi_app {c : Int} {a : List Int} (h : ∀ x ∈ a, x ≠ c) (b : List Int) : fi c (a ++ b) = a.length + fi c b := by
  induction a with
  | nil => simp
  | cons x a ih =>
    have hx := h x (by simp)
    have := ih (fun y hy => h y (by simp [hy]))
    unfold fi at this ⊢
    rw [List.cons_append, List.findIdx_cons, decide_eq_false hx, cond_false, this, List.length_cons]
    omega
theorem fi_head (c : Int) (b : List Int) : fi c (c :: b) = 0 := by unfold fi; rw [List.findIdx_cons]; simp
theorem fi_nil (c : Int) : fi c [] = 0 := rfl
theorem index_one (c : UInt8) : ∀ l : List UInt8, Go.Lib.index l [c] = if l.findIdx (· == c) < l.length then ((l.findIdx (· == c) : Nat) : Int) else -1
  | [] => rfl
  | b :: l => by
    have ih := index_one c l
    have hp : [c].isPrefixOf (b :: l) = (c == b) := by simp [List.isPrefixOf]
    rw [Go.Lib.index, hp, List.findIdx_cons, List.length_cons]
    by_cases h : b = c
    · subst h; simp
    · have h1 : (b == c) = false := by simpa using h
      have h2 : (c == b) = false := by simpa using fun e => h e.symm
      rw [h1, h2, cond_false, if_neg (show ¬ (false = true) by decide)]
      by_cases z : l.findIdx (· == c) < l.length
      · have e : ((((l.findIdx (· == c)) : Nat) : Int) == -1) = false := by simp
        rw [if_pos z] at ih
        rw [ih, e, if_neg (show ¬ (false = true) by decide), if_pos (show (l.findIdx (· == c)) + 1 < l.length + 1 by omega)]; omega
      · rw [if_neg z] at ih
        rw [ih, if_neg (show ¬ (l.findIdx (· == c)) + 1 < l.length + 1 by omega)]; rfl
theorem fi_ns (c : UInt8) (s : ByteArray) : s.data.toList.findIdx (· == c) = fi c.toNat (ns s) := by
  unfold fi ns
  rw [List.findIdx_map]
  congr 1
  funext b
  simp only [Function.comp_apply]
  rw [Bool.eq_iff_iff, beq_iff_eq, decide_eq_true_eq]
  constructor
  · intro h; rw [h]
  · intro h
    have : b.toNat = c.toNat := by omega
    exact UInt8.toNat_inj.1 this
theorem cutc (c : UInt8) {s : ByteArray} (hs : s.size < 4294967281) : ∃ A B f, strings_Cut.f s (⟨#[c]⟩ : ByteArray) = some (A, B, f) ∧ ns A = (ns s).take (fi c.toNat (ns s)) ∧ ns B = (ns s).drop (fi c.toNat (ns s) + 1) := by
  unfold strings_Cut.f
  rw [if_pos hs]
  refine ⟨_, _, _, rfl, ?_, ?_⟩
  · rw [ns_mk]
    unfold Go.Lib.cut
    have e : (⟨#[c]⟩ : ByteArray).data.toList = [c] := rfl
    rw [e, index_one, ← fi_ns]
    by_cases z : s.data.toList.findIdx (· == c) < s.data.toList.length
    · rw [if_pos z, if_pos (by omega)]
      simp only [Int.toNat_natCast, List.map_take]; rfl
    · rw [if_neg z, if_neg (by decide)]
      simp only
      rw [List.take_of_length_le (by unfold ns; rw [List.length_map]; omega)]; rfl
  · rw [ns_mk]
    unfold Go.Lib.cut
    have e : (⟨#[c]⟩ : ByteArray).data.toList = [c] := rfl
    rw [e, index_one, ← fi_ns]
    by_cases z : s.data.toList.findIdx (· == c) < s.data.toList.length
    · rw [if_pos z, if_pos (by omega)]
      simp only [Int.toNat_natCast, List.map_drop, List.length_cons, List.length_nil, Nat.zero_add]; rfl
    · rw [if_neg z, if_neg (by decide)]
      simp only
      rw [List.drop_of_length_le (by unfold ns; rw [List.length_map]; omega)]; rfl
end Go.Proofs.YtjgmmaeafodpmaaGreatDoor.Lib
set_option linter.unusedVariables false
set_option linter.unusedSimpArgs false
namespace Go.Proofs.YtjgmmaeafodpmaaGreatDoor.Lib
open Go.RowKit Go.Proofs.YtjgmmaeafodpmaaGreatDoorW.PrintWords Go.Proofs.YtjgmmaeafodpmaaGreatDoorW.PrintMore Go.Proofs.YtjgmmaeafodpmaaGreatDoor.P
variable {m p : Nat} {a b c d l : List Int} {x y : Bool} {q r : Rat}
def cmpQ (q r : Rat) : Int := cmpZ (q.num * r.den) (r.num * q.den)
theorem cmpQ_cases (q r : Rat) : (q < r ∧ cmpQ q r = -1) ∨ (q = r ∧ cmpQ q r = 0) ∨ (r < q ∧ cmpQ q r = 1) := by
  unfold cmpQ
  rcases cmpZ_cases (q.num * r.den) (r.num * q.den) with ⟨h, e⟩ | ⟨h, e⟩ | ⟨h, e⟩
  · exact .inl ⟨(Rat.lt_iff q r).2 h, e⟩
  · exact .inr (.inl ⟨Rat.eq_iff_mul_eq_mul.2 h, e⟩)
  · exact .inr (.inr ⟨(Rat.lt_iff r q).2 h, e⟩)
theorem cmpQ_le (h : q ≤ r) : cmpQ q r ≤ 0 := by
  rcases cmpQ_cases q r with ⟨_, e⟩ | ⟨_, e⟩ | ⟨h', e⟩
  · omega
  · omega
  · exact absurd h (Rat.not_le.2 h')
theorem cmpQ_ge (h : r ≤ q) : 0 ≤ cmpQ q r := by
  rcases cmpQ_cases q r with ⟨h', e⟩ | ⟨_, e⟩ | ⟨_, e⟩
  · exact absurd h (Rat.not_le.2 h')
  · omega
  · omega
theorem cmpQ_zero (q r : Rat) : cmpQ q r = 0 ↔ q = r := by
  rcases cmpQ_cases q r with ⟨h, e⟩ | ⟨h, e⟩ | ⟨h, e⟩
  · rw [e]; exact ⟨fun z => by omega, fun z => absurd z (Rat.ne_of_lt h)⟩
  · rw [e]; exact ⟨fun _ => h, fun _ => rfl⟩
  · rw [e]; exact ⟨fun z => by omega, fun z => absurd z (Rat.ne_of_gt h)⟩
theorem qCmp_to (h : Qs q) (k : Qs r) : Ev (fun n => rat_Cmp.f n (cz q.num).1 (cz q.num).2 (L q.den) (cz r.num).1 (cz r.num).2 (L r.den)) (cmpQ q r) := by
  unfold rat_Cmp.f
  refine Ev.bind (qGood_yes h) (Ev.ifp rfl (Ev.bind (qGood_yes k) (Ev.succ ?_)))
  simp only [rat_Cmp.j0]
  refine Ev.ifn (by decide) (Ev.bind (cross_to h k) (Ev.bind (cross_to k h) ?_))
  exact Ev.bind (wCmp_to (S_cz (na_cross h k)) (S_cz (na_cross k h)) (by omega) (c := cmpQ q r) (by rw [vz_cz, vz_cz]; rfl)) (Ev.now _)
theorem cmpQ_0 (q : Rat) : cmpQ q 0 = cmpZ q.num 0 := by
  unfold cmpQ
  rw [show (0 : Rat).num = 0 from rfl, show (0 : Rat).den = 1 from rfl, Int.zero_mul]
  simp
theorem qSign_to (h : Qs q) : Ev (fun n => rat_Sign.f n (cz q.num).1 (cz q.num).2 (L q.den)) (cmpQ q 0) := by
  unfold rat_Sign.f
  refine Ev.bind (qGood_yes h) (Ev.ifp rfl (Ev.bind (wCmp_to (Qs_a h) (S_nil (m := 64)) (by omega) (c := cmpQ q 0) (by rw [vz_cz, vz_f, V_nil, cmpQ_0]; rfl)) (Ev.now _)))
theorem Qs_neg (h : Qs q) : Qs (-q) := ⟨by rw [Rat.neg_num]; exact na_neg h.1, h.2⟩
theorem cpy_all (l : List Int) : cpy (List.replicate l.length 0) 0 l = l := by rw [cpy_take _ _ (Nat.le_refl _), List.take_length]
theorem qNeg_to (h : Qs q) : Ev (fun n => rat_Neg.f n (cz q.num).1 (cz q.num).2 (L q.den)) ((cz (-q).num).1, (cz (-q).num).2, L (-q).den) := by
  have hl := (Qs_b h).2
  unfold rat_Neg.f
  refine Ev.bind (qGood_yes h) (Ev.ifp rfl ?_)
  simp only [Option.bind_some, Int.toNat_natCast, cpy_all]
  first
    | exact Ev.ifp (by omega) (Ev.ifp (by omega) (Ev.bind (wNeg_to (Qs_a h) (by omega) (z := (-q).num) (by rw [vz_cz]; rfl)) (Ev.now _)))
    | exact Ev.bind (wNeg_to (Qs_a h) (by omega) (z := (-q).num) (by rw [vz_cz]; rfl)) (Ev.ifp (by omega) (Ev.ifp (by omega) (Ev.now _)))
def Qm (m : Nat) (q : Rat) : Prop := q.num.natAbs < Bp m ∧ q.den < Bp m
end Go.Proofs.YtjgmmaeafodpmaaGreatDoor.Lib
set_option linter.unusedVariables false
set_option linter.unusedSimpArgs false
namespace Go.Proofs.YtjgmmaeafodpmaaGreatDoor.Lib
open Go.RowKit Go.Proofs.YtjgmmaeafodpmaaGreatDoorW.PrintWords Go.Proofs.YtjgmmaeafodpmaaGreatDoorW.PrintMore Go.Proofs.YtjgmmaeafodpmaaGreatDoor.P
variable {m p : Nat} {a b c d l : List Int} {x y : Bool} {q r : Rat}
def fl (q : Rat) (p : Nat) : Int := q.num * (10 ^ p : Nat) / (q.den : Int)
def fr (q : Rat) (p : Nat) : Int := q.num * (10 ^ p : Nat) % (q.den : Int)
def ce (q : Rat) (p : Nat) : Int := if fr q p = 0 then fl q p else fl q p + 1
def side (q : Rat) (p : Nat) : Int := cmpZ (2 * fr q p) q.den
def nr (q : Rat) (p : Nat) : Int := if side q p > 0 ∨ (side q p = 0 ∧ (fl q p).natAbs.testBit 0 = true) then ce q p else fl q p
theorem den_pos' (q : Rat) : (0 : Int) < q.den := by have := q.den_nz; omega
theorem fl_fr (q : Rat) (p : Nat) : q.num * (10 ^ p : Nat) = fl q p * q.den + fr q p := by
  unfold fl fr
  have := Int.mul_ediv_add_emod (q.num * (10 ^ p : Nat)) q.den
  rw [Int.mul_comm (q.den : Int)] at this
  exact this.symm
theorem fr_range (q : Rat) (p : Nat) : 0 ≤ fr q p ∧ fr q p < q.den := ⟨Int.emod_nonneg _ (by have := den_pos' q; omega), Int.emod_lt_of_pos _ (den_pos' q)⟩
theorem split_nat (q : Rat) (p : Nat) {Q R : Nat} (hQ : q.num.natAbs * 10 ^ p / q.den = Q) (hR : q.num.natAbs * 10 ^ p % q.den = R) :
    R < q.den ∧ (0 ≤ q.num → fl q p = Q ∧ fr q p = R) ∧ (q.num < 0 → R = 0 → fl q p = -(Q : Int) ∧ fr q p = 0) ∧ (q.num < 0 → R ≠ 0 → fl q p = -(Q : Int) - 1 ∧ fr q p = q.den - R) := by
  have hd : 0 < q.den := Nat.pos_of_ne_zero q.den_nz
  have hR' : R < q.den := hR ▸ Nat.mod_lt _ hd
  have hdm := Nat.div_add_mod (q.num.natAbs * 10 ^ p) q.den
  rw [hQ, hR] at hdm
  have key : ((q.num.natAbs : Nat) : Int) * ((10 ^ p : Nat) : Int) = (q.den : Int) * Q + R := by
    rw [← Int.natCast_mul, ← hdm]; push_cast; rfl
  have uniq : ∀ u w : Int, q.num * ((10 ^ p : Nat) : Int) = u * q.den + w → 0 ≤ w → w < q.den → fl q p = u ∧ fr q p = w := fun u w h h0 h1 => by
    have e1 : q.num * ((10 ^ p : Nat) : Int) / (q.den : Int) = u := by
      rw [h, Int.add_comm, Int.add_mul_ediv_right _ _ (by omega), Int.ediv_eq_zero_of_lt h0 h1, Int.zero_add]
    have e2 : q.num * ((10 ^ p : Nat) : Int) % (q.den : Int) = w := by
      rw [h, Int.add_comm, Int.add_mul_emod_self_right, Int.emod_eq_of_lt h0 h1]
    exact ⟨e1, e2⟩
  refine ⟨hR', fun h => ?_, fun h h0 => ?_, fun h h0 => ?_⟩
  · refine uniq _ _ ?_ (by omega) (by omega)
    have e : ((q.num.natAbs : Nat) : Int) = q.num := by omega
    rw [e] at key
    rw [key, Int.mul_comm]
  · refine uniq _ _ ?_ (by omega) (by omega)
    have e : q.num = -((q.num.natAbs : Nat) : Int) := by omega
    rw [e, Int.neg_mul, key, h0, Int.neg_mul, Int.mul_comm (Q : Int)]
    omega
  · refine uniq _ _ ?_ (by omega) (by omega)
    have e : q.num = -((q.num.natAbs : Nat) : Int) := by omega
    rw [e, Int.neg_mul, key, Int.sub_mul, Int.neg_mul, Int.one_mul, Int.mul_comm (Q : Int)]
    omega
theorem Qs_top (h : Qs q) (hp : p ≤ 60) : q.num.natAbs * 10 ^ p < Bp 73 := lt_mul h.1 (ten_Bp (m := 8) (j := p) (by omega)) (by omega)
theorem fl_lt (h : Qs q) (hp : p ≤ 60) : (fl q p).natAbs < Bp 74 ∧ (ce q p).natAbs < Bp 75 := by
  obtain ⟨h1, h2, h3, h4⟩ := split_nat q p rfl rfl
  have hQ : q.num.natAbs * 10 ^ p / q.den < Bp 73 := Nat.lt_of_le_of_lt (Nat.div_le_self _ _) (Qs_top h hp)
  generalize q.num.natAbs * 10 ^ p / q.den = Q at *
  generalize q.num.natAbs * 10 ^ p % q.den = R at *
  have h1 : (1 : Int).natAbs < Bp 73 := one_lt_Bp (by omega)
  have hf : (fl q p).natAbs < Bp 74 := by
    have h72 : Bp 73 ≤ Bp 74 := Bp_le (by omega)
    generalize hB3 : Bp 73 = B3 at *
    generalize hB4 : Bp 74 = B4 at *
    by_cases c : 0 ≤ q.num
    · rw [(h2 c).1]; omega
    · by_cases c' : R = 0
      · rw [(h3 (by omega) c').1]; omega
      · rw [(h4 (by omega) c').1, ← hB4]
        exact na_add (m := 73) (by rw [Int.natAbs_neg, Int.natAbs_natCast, hB3]; exact hQ) (by rw [Int.natAbs_neg, hB3]; exact h1) (by omega)
  refine ⟨hf, ?_⟩
  unfold ce
  split
  · exact lt_up hf (by omega)
  · exact na_add hf (lt_up h1 (by omega)) (by omega)
theorem cmpI_Z (u v : Nat) : cmpI u v = cmpZ (u : Int) (v : Int) := by
  unfold cmpI cmpZ
  by_cases h : u < v
  · rw [if_pos h, if_pos (show (u : Int) < v by omega)]
  · rw [if_neg h, if_neg (show ¬ (u : Int) < v by omega)]
    by_cases h' : v < u
    · rw [if_pos h', if_pos (show (v : Int) < u by omega)]
    · rw [if_neg h', if_neg (show ¬ (v : Int) < u by omega)]
theorem dsplit_to (h : Qs q) (hp : p ≤ 60) : Ev (fun k => decimal_split.f k (cz q.num).1 (cz q.num).2 (L q.den) (p : Int)) ((cz (fl q p)).1, (cz (fl q p)).2, (cz (ce q p)).1, (cz (ce q p)).2, side q p, 0) := by
  obtain ⟨hR, h2, h3, h4⟩ := split_nat q p rfl rfl
  have ht := Qs_top h hp
  generalize hQe : q.num.natAbs * 10 ^ p / q.den = Q at *
  generalize hRe : q.num.natAbs * 10 ^ p % q.den = R at *
  have hQ : Q < Bp 73 := by rw [← hQe]; exact Nat.lt_of_le_of_lt (Nat.div_le_self _ _) ht
  have hRB : R < Bp 64 := Nat.lt_trans hR h.2
  unfold decimal_split.f
  refine Ev.bind (qGood_yes h) (Ev.ifp rfl (Ev.ifn (by omega) ?_))
  rw [decide_eq_false (by omega)]
  refine Ev.succ ?_
  simp only [decimal_split.j0]
  refine Ev.ifn (by decide) (Ev.bind (Ten_to (by omega)) ?_)
  refine Ev.bind (Mul_to (Qs_a h) (S_L (ten_Bp (m := 8) (j := p) (by omega))) (by omega) (n := q.num.natAbs * 10 ^ p) (by rw [cz2, V_L, V_L])) ?_
  refine Ev.bind (Rem_to (S_L ht) (Qs_b h) (by omega) (by omega) (by rw [V_L]; exact q.den_nz) (q := Q) (r := R) (by rw [V_L, V_L]; exact hQe) (by rw [V_L, V_L]; exact hRe)) ?_
  refine Ev.bind (Add_to (S_L hRB) (S_L hRB) (by omega) (n := R + R) (by rw [V_L])) ?_
  refine Ev.bind (Cmp_to (m := 65) (S_L (lt_add hRB hRB (by omega))) (S_L (lt_up h.2 (by omega))) (by omega) (c := cmpZ ((R + R : Nat) : Int) q.den) (by rw [V_L, V_L, cmpI_Z])) ?_
  refine Ev.bind (wTrim_to (S_L hQ) (by omega) (z := if q.num < 0 then -(Q : Int) else Q) (by rw [cz1, vz_if]; simp only [decide_eq_true_eq])) ?_
  by_cases c0 : R = 0
  · have e : fl q p = (if q.num < 0 then -(Q : Int) else Q) ∧ fr q p = 0 := by
      by_cases c : q.num < 0
      · rw [if_pos c]; exact h3 c c0
      · rw [if_neg c]; have := h2 (by omega); rw [c0] at this; exact this
    refine Ev.ifp (by rw [len0]; exact c0) (Ev.const ?_)
    have e2 : ce q p = fl q p := by unfold ce; rw [if_pos e.2]
    rw [e2, e.1]
    unfold side
    rw [e.2, c0]; rfl
  · refine Ev.ifn (by rw [len0]; exact c0) ?_
    by_cases c : q.num < 0
    · obtain ⟨e1, e2⟩ := h4 c c0
      rw [if_pos c]
      refine Ev.ifp (by rw [cz1]; exact decide_eq_true c) (Ev.bind (wOf_to (v := -1) (by omega) (by omega)) ?_)
      refine Ev.bind (wAdd_to (m := 73) (S_cz (by rw [Int.natAbs_neg, Int.natAbs_natCast]; exact hQ)) (S_cz (z := -1) (by rw [Int.natAbs_neg]; exact one_lt_Bp (m := 73) (by omega))) (by omega) (z := fl q p) (by rw [vz_cz, vz_cz, e1]; omega)) (Ev.const ?_)
      have e3 : ce q p = -(Q : Int) := by unfold ce; rw [if_neg (by omega), e1]; omega
      rw [e3]
      have e4 : wrap64 (-(cmpZ ((R + R : Nat) : Int) q.den)) = side q p := by
        unfold side
        rw [e2]
        rcases cmpZ_cases ((R + R : Nat) : Int) q.den with ⟨h', e⟩ | ⟨h', e⟩ | ⟨h', e⟩
        · rw [e, cmpZ_gt (by omega), w64 (by omega) (by omega)]; rfl
        · rw [e, show 2 * ((q.den : Int) - R) = q.den by omega, cmpZ_eq, w64 (by omega) (by omega)]; rfl
        · rw [e, cmpZ_lt (by omega), w64 (by omega) (by omega)]
      rw [e4]
    · obtain ⟨e1, e2⟩ := h2 (by omega)
      rw [if_neg c]
      refine Ev.ifn (by rw [cz1, decide_eq_false c]; decide) (Ev.bind (wOf_to (v := 1) (by omega) (by omega)) ?_)
      refine Ev.bind (wAdd_to (m := 73) (S_cz (by rw [Int.natAbs_natCast]; exact hQ)) (S_cz (z := 1) (one_lt_Bp (m := 73) (by omega))) (by omega) (z := ce q p) (by rw [vz_cz, vz_cz]; unfold ce; rw [if_neg (by omega), e1])) (Ev.const ?_)
      unfold side
      rw [e1, e2, show ((R + R : Nat) : Int) = 2 * (R : Int) by omega]
theorem dsplit_no {v : Int} (sa : S m a) (sb : S m b) (hm : m ≤ 800000) (h : gq x a b = false ∨ v < 0 ∨ 60 < v) : Ev (fun k => decimal_split.f k x a b v) (false, [], false, [], 0, 1) := by
  have jt : Ev (fun k => decimal_split.j0 k v true x a b) (false, [], false, [], 0, 1) := Ev.succ (by simp only [decimal_split.j0]; exact Ev.ifp trivial (Ev.now _))
  unfold decimal_split.f
  refine Ev.bind (qGood_ev sa sb hm) ?_
  by_cases g : gq x a b = true
  · refine Ev.ifp g ?_
    by_cases c : v < 0
    · exact Ev.ifp c jt
    · refine Ev.ifn c ?_
      rw [decide_eq_true (show v > 60 by rcases h with h | h | h <;> first | (rw [g] at h; cases h) | omega)]
      exact jt
  · exact Ev.ifn g jt
def pad (z : Int) (p : Nat) : List Int := List.replicate (p + 1 - (tx z.natAbs).length) 48 ++ tx z.natAbs
def ptl (z : Int) (p : Nat) : List Int := (pad z p).take ((pad z p).length - p) ++ (if p = 0 then [] else 46 :: (pad z p).drop ((pad z p).length - p))
def pt (z : Int) (p : Nat) : List Int := if z < 0 then 45 :: ptl z p else ptl z p
theorem Dg_pad (z : Int) (p : Nat) : Dg (pad z p) := Dg_app.2 ⟨fun x hx => by obtain ⟨_, rfl⟩ := List.mem_replicate.1 hx; decide, Dg_tx _⟩
theorem pad_len (z : Int) (p : Nat) : (pad z p).length = max (p + 1) (tx z.natAbs).length := by unfold pad; rw [List.length_append, List.length_replicate]; omega
theorem B8_cons {x : Int} {l : List Int} (h : 0 ≤ x ∧ x < 256) (hl : B8 l) : B8 (x :: l) := fun y hy => by
  rcases List.mem_cons.1 hy with rfl | hy
  · exact h
  · exact hl y hy
theorem B8_app {l r : List Int} (h : B8 l) (k : B8 r) : B8 (l ++ r) := fun y hy => by
  rcases List.mem_append.1 hy with hy | hy
  · exact h y hy
  · exact k y hy
theorem B8_ptl (z : Int) (p : Nat) : B8 (ptl z p) := by
  unfold ptl
  refine B8_app (Dg_B8 (Dg_take (Dg_pad z p) _)) ?_
  split
  · exact fun y hy => by cases hy
  · exact B8_cons (by omega) (Dg_B8 (Dg_drop (Dg_pad z p) _))
theorem B8_pt (z : Int) (p : Nat) : B8 (pt z p) := by
  unfold pt
  split
  · exact B8_cons (by omega) (B8_ptl z p)
  · exact B8_ptl z p
def PT (z : Int) (p : Nat) : ByteArray := strOfNums (pt z p)
theorem ns_PT (z : Int) (p : Nat) : ns (PT z p) = pt z p := ns_strOf (B8_pt z p)
theorem repeat_0 (n : Nat) (h : n ≤ 1000000) : ∃ R, strings_Repeat.f (⟨#[48]⟩ : ByteArray) (n : Int) = some R ∧ ns R = List.replicate n 48 := by
  unfold strings_Repeat.f
  refine ⟨_, by rw [if_pos (by omega), if_pos (by omega), if_pos (by rw [Int.toNat_natCast]; show 1 * n ≤ _; omega)], ?_⟩
  rw [Int.toNat_natCast, ns_mk]
  have e : (⟨#[48]⟩ : ByteArray).data.toList = [48] := rfl
  rw [e]
  clear h
  induction n with
  | zero => rfl
  | succ n ih => rw [Go.Lib.repeatL, List.map_append, ih, List.replicate_succ]; rfl
theorem btes_ns (s : ByteArray) : btes s = ns s := rfl
theorem dtext_tail {z : Int} {s : ByteArray} (hs : ns s = pad z p) (hz : s.size ≤ 100000) (hp : p ≤ 1000) {w : Bool} (hw : w = decide (z < 0)) : Ev (fun k => decimal_text.j0 k (p : Int) s w l) (PT z p) := by
  have hl := pad_len z p
  have hsz : s.size = (pad z p).length := size_ns hs
  refine Ev.succ ?_
  simp only [decimal_text.j0, btes_ns, Option.bind_some, Int.toNat_natCast, List.length_replicate]
  rw [hs, w64 (by omega) (by omega), show ((s.size : Int) - (p : Int)) = ((s.size - p : Nat) : Int) by omega, Int.toNat_natCast, hsz]
  have e0 : cpy (List.replicate (pad z p).length 0) 0 (pad z p) = pad z p := cpy_all _
  rw [e0]
  have b1 : B8 ((pad z p).take ((pad z p).length - p)) := Dg_B8 (Dg_take (Dg_pad z p) _)
  have b2 : B8 ((pad z p).drop ((pad z p).length - p)) := Dg_B8 (Dg_drop (Dg_pad z p) _)
  have n1 := ns_strOf b1
  have n2 := ns_strOf b2
  have z1 := size_ns n1
  have z2 := size_ns n2
  rw [List.length_take] at z1
  rw [List.length_drop] at z2
  refine Ev.ifp (by omega) (Ev.ifp (by omega) (Ev.ifp (by omega) (Ev.ifp (by omega) ?_)))
  by_cases c : p = 0
  · have hf : strOfNums ((pad z p).take ((pad z p).length - p)) = strOfNums (ptl z p) := by congr 1; unfold ptl; rw [if_pos c, List.append_nil]
    refine Ev.ifn (by omega) ?_
    rw [hf] at z1 ⊢
    subst hw
    by_cases cz' : z < 0
    · rw [decide_eq_true cz']
      refine Ev.ifp rfl (Ev.ifp (by omega) (Ev.const ?_))
      congr 1
      refine ns_inj ?_
      rw [ns_PT, ns_append, ns_strOf (B8_ptl z p)]; unfold pt; rw [if_pos cz']; rfl
    · rw [decide_eq_false cz']
      refine Ev.ifn (by decide) (Ev.const ?_)
      congr 1
      unfold PT pt; rw [if_neg cz']
  · have sd : ((⟨#[46]⟩ : ByteArray) ++ strOfNums ((pad z p).drop ((pad z p).length - p))).size = 1 + (strOfNums ((pad z p).drop ((pad z p).length - p))).size := by rw [ByteArray.size_append]; rfl
    have hf : strOfNums ((pad z p).take ((pad z p).length - p)) ++ ((⟨#[46]⟩ : ByteArray) ++ strOfNums ((pad z p).drop ((pad z p).length - p))) = strOfNums (ptl z p) := by
      refine ns_inj ?_
      rw [ns_append, ns_append, n1, n2, ns_strOf (B8_ptl z p)]; unfold ptl; rw [if_neg c]; rfl
    have zf := congrArg ByteArray.size hf
    rw [ByteArray.size_append, sd] at zf
    refine Ev.ifp (by omega) (Ev.ifp (by omega) (Ev.ifp (by omega) ?_))
    rw [hf]
    subst hw
    by_cases cz' : z < 0
    · rw [decide_eq_true cz']
      refine Ev.ifp rfl (Ev.ifp (by omega) (Ev.const ?_))
      congr 1
      refine ns_inj ?_
      rw [ns_PT, ns_append, ns_strOf (B8_ptl z p)]; unfold pt; rw [if_pos cz']; rfl
    · rw [decide_eq_false cz']
      refine Ev.ifn (by decide) (Ev.const ?_)
      congr 1
      unfold PT pt; rw [if_neg cz']
theorem tx_small {n m : Nat} (h : n < Bp m) (hm : m ≤ 3000) : (tx n).length ≤ 100000 := by
  have := T_size h hm
  rw [size_ns (ns_T n)] at this
  exact this
theorem Bp_ten (m : Nat) : Bp m ≤ 10 ^ (10 * m) := by rw [Nat.pow_mul]; exact Nat.pow_le_pow_left (by decide) m
theorem dtext_to {z : Int} (hz : z.natAbs < Bp m) (hm : m ≤ 1000) (hp : p ≤ 1000) : Ev (fun k => decimal_text.f k (cz z).1 (cz z).2 (p : Int)) (PT z p) := by
  have hl := tx_small hz (by omega)
  have h30 : (tx z.natAbs).length ≤ 90000 := by
    by_cases c : m = 0
    · have := tx_len_le (k := 1) (n := z.natAbs) (by have e : Bp m = 1 := by rw [c]; rfl
                                                     omega) (by omega)
      omega
    · have := tx_len_le (Nat.lt_of_lt_of_le hz (Bp_ten m)) (by omega)
      omega
  have hs : (T z.natAbs).size = (tx z.natAbs).length := size_ns (ns_T _)
  unfold decimal_text.f
  refine Ev.bind (Text_to (S_cz hz) (by omega) (n := z.natAbs) (by rw [cz2, V_L])) ?_
  rw [w64 (x := (p : Int) + 1) (by omega) (by omega), w64 (by omega) (by omega)]
  by_cases c : (p : Int) + 1 - ((T z.natAbs).size : Int) > 0
  · refine Ev.ifp c ?_
    obtain ⟨R, hR, hn⟩ := repeat_0 (p + 1 - (tx z.natAbs).length) (by omega)
    rw [show (p : Int) + 1 - ((T z.natAbs).size : Int) = ((p + 1 - (tx z.natAbs).length : Nat) : Int) by omega, hR]
    simp only [Option.bind_some]
    have hRs := size_ns hn
    rw [List.length_replicate] at hRs
    refine Ev.ifp (by omega) (dtext_tail ?_ (by rw [ByteArray.size_append]; omega) hp rfl)
    rw [ns_append, hn, ns_T]; rfl
  · refine Ev.ifn c (dtext_tail ?_ (by omega) hp rfl)
    rw [ns_T]
    unfold pad
    rw [show p + 1 - (tx z.natAbs).length = 0 by omega]; rfl
theorem Down_to (h : Qs q) (hp : p ≤ 60) : Ev (fun k => decimal_Down.f k (cz q.num).1 (cz q.num).2 (L q.den) (p : Int)) (PT (fl q p) p, 0) := by
  unfold decimal_Down.f
  exact Ev.bind (dsplit_to h hp) (Ev.ifp rfl (Ev.bind (dtext_to (fl_lt h hp).1 (by omega) (by omega)) (Ev.now _)))
theorem Up_to' (h : Qs q) (hp : p ≤ 60) : Ev (fun k => decimal_Up.f k (cz q.num).1 (cz q.num).2 (L q.den) (p : Int)) (PT (ce q p) p, 0) := by
  unfold decimal_Up.f
  exact Ev.bind (dsplit_to h hp) (Ev.ifp rfl (Ev.bind (dtext_to (fl_lt h hp).2 (by omega) (by omega)) (Ev.now _)))
theorem Near_to (h : Qs q) (hp : p ≤ 60) : Ev (fun k => decimal_Near.f k (cz q.num).1 (cz q.num).2 (L q.den) (p : Int)) (PT (nr q p) p, 0) := by
  have j : ∀ w : Bool, Ev (fun k => decimal_Near.j0 k (p : Int) w (cz (fl q p)).1 (cz (fl q p)).2 (cz (ce q p)).1 (cz (ce q p)).2) (PT (if w = true then ce q p else fl q p) p, 0) := fun w => by
    refine Ev.succ ?_
    simp only [decimal_Near.j0]
    cases w with
    | true => exact Ev.ifp rfl (Ev.bind (dtext_to (fl_lt h hp).2 (by omega) (by omega)) (Ev.now _))
    | false => exact Ev.ifn (by decide) (Ev.bind (dtext_to (fl_lt h hp).1 (by omega) (by omega)) (Ev.now _))
  unfold decimal_Near.f
  refine Ev.bind (dsplit_to h hp) (Ev.ifp rfl ?_)
  unfold nr
  by_cases c1 : side q p > 0
  · rw [if_pos (.inl c1)]
    exact Ev.ifp c1 (j true)
  · refine Ev.ifn c1 ?_
    by_cases c2 : side q p = 0
    · refine Ev.ifp c2 ?_
      have hb : nat_Bit.f (cz (fl q p)).2 0 = some ((fl q p).natAbs.testBit 0) := Bit_to (S_cz (fl_lt h hp).1) (by omega) (by rw [cz2, V_L]) 0 (by omega)
      rw [hb]
      simp only [Option.bind_some]
      have := j ((fl q p).natAbs.testBit 0)
      by_cases c3 : (fl q p).natAbs.testBit 0 = true
      · rw [if_pos (.inr ⟨c2, c3⟩)]; rw [if_pos c3] at this; exact this
      · rw [if_neg (by rintro (e | e); exact c1 e; exact c3 e.2)]; rw [if_neg c3] at this; exact this
    · rw [if_neg (by rintro (e | e); exact c1 e; exact c2 e.1)]
      exact Ev.ifn c2 (j false)
theorem Floor10_to (h : Qs q) (hp : p ≤ 60) : Ev (fun k => decimal_Floor.f k (cz q.num).1 (cz q.num).2 (L q.den) (p : Int)) ((cz (fl q p)).1, (cz (fl q p)).2, 0) := by
  unfold decimal_Floor.f
  exact Ev.bind (dsplit_to h hp) (Ev.now _)
end Go.Proofs.YtjgmmaeafodpmaaGreatDoor.Lib
set_option linter.unusedVariables false
set_option linter.unusedSimpArgs false
namespace Go.Proofs.YtjgmmaeafodpmaaGreatDoor.Lib
open Go.RowKit Go.Proofs.YtjgmmaeafodpmaaGreatDoorW.PrintWords Go.Proofs.YtjgmmaeafodpmaaGreatDoorW.PrintMore Go.Proofs.YtjgmmaeafodpmaaGreatDoor.P
variable {m p : Nat} {a b c d l : List Int} {x y : Bool} {q r : Rat}
end Go.Proofs.YtjgmmaeafodpmaaGreatDoor.Lib
set_option linter.unusedVariables false
set_option linter.unusedSimpArgs false
namespace Go.Proofs.YtjgmmaeafodpmaaGreatDoor.Lib
open Go.RowKit Go.Proofs.YtjgmmaeafodpmaaGreatDoorW.PrintWords Go.Proofs.YtjgmmaeafodpmaaGreatDoorW.PrintMore Go.Proofs.YtjgmmaeafodpmaaGreatDoor.P
variable {m p : Nat} {a b c d l : List Int} {x y : Bool} {q r : Rat}
def EX (q : Rat) : ByteArray := if q.den = 1 then TZ q.num else TZ q.num ++ ((⟨#[47]⟩ : ByteArray) ++ T q.den)
theorem T_one (n : Nat) : (T n).toList = ([49] : List UInt8) ↔ n = 1 := by
  have e : (T 1).toList = ([49] : List UInt8) := (toList_T (by rw [tx_digit (by omega)]; rfl))
  rw [← e, ns_eq_iff, ns_T, ns_T]
  constructor
  · intro h
    have := congrArg pv h
    rwa [pv_tx, pv_tx] at this
  · intro h; rw [h]
theorem TZ_size {z : Int} (h : z.natAbs < Bp m) (hm : m ≤ 3000) : (TZ z).size ≤ 100001 := by
  have h1 := tx_small h hm
  rw [size_ns (ns_TZ z)]
  split
  · rw [List.length_cons]; omega
  · omega
theorem dExact_to (h : Qs q) : Ev (fun k => decimal_Exact.f k (cz q.num).1 (cz q.num).2 (L q.den)) (EX q) := by
  have s1 := TZ_size h.1 (by omega)
  have s2 := T_size h.2 (by omega)
  unfold decimal_Exact.f
  refine Ev.bind (qGood_yes h) (Ev.ifp rfl (Ev.bind (wText_to (Qs_a h) (by omega) (z := q.num) (vz_cz _)) (Ev.bind (Text_to (Qs_b h) (by omega) (V_L _)) ?_)))
  unfold EX
  by_cases c : q.den = 1
  · rw [if_pos c]
    exact Ev.ifp ((T_one _).2 c) (Ev.now _)
  · rw [if_neg c]
    have e : ((⟨#[47]⟩ : ByteArray) ++ T q.den).size = 1 + (T q.den).size := by rw [ByteArray.size_append]; rfl
    exact Ev.ifn (fun e => c ((T_one _).1 e)) (Ev.ifp (by omega) (Ev.ifp (by omega) (Ev.now _)))
def badR : Bool × List Int × List Int × Int := (false, [], [], 12)
def PR (x : Bool) (a b : List Int) (s : ByteArray) : Bool × List Int × List Int × Int :=
  if V b = 0 then badR else if Qs (mkRat (vz x a) (V b)) ∧ EX (mkRat (vz x a) (V b)) = s then ((cz (mkRat (vz x a) (V b)).num).1, (cz (mkRat (vz x a) (V b)).num).2, L (mkRat (vz x a) (V b)).den, 0) else badR
theorem toList_iff {s t : ByteArray} : s.toList = t.toList ↔ s = t := ⟨fun h => ns_inj (ns_eq_iff.1 h), fun h => by rw [h]⟩
theorem dj1_to {s : ByteArray} (sa : S m a) (sb : S m b) (hm : m ≤ 100000) (w : Bool) : Ev (fun k => decimal_Parse.j1 k s b w x a) (if w = true then badR else PR x a b s) := by
  refine Ev.succ ?_
  simp only [decimal_Parse.j1]
  cases w with
  | true => exact Ev.ifp rfl (Ev.now _)
  | false =>
    refine Ev.ifn (by decide) ?_
    rw [if_neg (by decide)]
    unfold PR
    by_cases h0 : V b = 0
    · rw [if_pos h0]
      exact Ev.bind (qOf_no sa sb (by omega) h0) (Ev.ifn (by decide) (Ev.now _))
    · rw [if_neg h0]
      refine Ev.bind (qOf_to sa sb (by omega) h0 rfl) ?_
      generalize mkRat (vz x a) (V b) = Q
      by_cases hQ : Qs Q
      · rw [qr_yes hQ]
        refine Ev.ifp rfl (Ev.bind (dExact_to hQ) ?_)
        by_cases hs : EX Q = s
        · refine Ev.ifp (toList_iff.2 hs) ?_
          rw [if_pos ⟨hQ, hs⟩]; exact Ev.now _
        · refine Ev.ifn (fun h => hs (toList_iff.1 h)) ?_
          rw [if_neg (fun h => hs h.2)]; exact Ev.now _
      · rw [qr_no hQ, if_neg (fun h => hQ h.1)]
        exact Ev.ifn (by decide) (Ev.now _)
theorem no47 (z : Int) : ∀ u ∈ ns (TZ z), u ≠ 47 := by
  rw [ns_TZ]
  intro u hu
  split at hu
  · rcases List.mem_cons.1 hu with rfl | hu
    · omega
    · have := Dg_tx _ u hu; omega
  · have := Dg_tx _ u hu; omega
theorem dParse_gen {s A B : ByteArray} {f : Bool} {P : Bool × List Int × Bool} {RB : List Int × Bool} (hc : strings_Cut.f s (⟨#[47]⟩ : ByteArray) = some (A, B, f)) (hA : Ev (fun k => whole_Parse.f k A) P) (hB : Ev (fun k => digits_Parse.f k (if ns B = [] then (⟨#[49]⟩ : ByteArray) else B)) RB)
    (sa : S m P.2.1) (sb : S m RB.1) (hm : m ≤ 100000) : Ev (fun k => decimal_Parse.f k s) (if P.2.2 = true ∧ RB.2 = true then PR P.1 P.2.1 RB.1 s else badR) := by
  have j0 : ∀ B', Ev (fun k => digits_Parse.f k B') RB → Ev (fun k => decimal_Parse.j0 k s A B') (if P.2.2 = true ∧ RB.2 = true then PR P.1 P.2.1 RB.1 s else badR) := fun B' hB' => by
    refine Ev.succ ?_
    simp only [decimal_Parse.j0]
    refine Ev.bind hA (Ev.bind hB' ?_)
    by_cases c : P.2.2 = true
    · refine Ev.ifp c ?_
      have := dj1_to (s := s) (x := P.1) sa sb hm (!RB.2)
      by_cases c2 : RB.2 = true
      · rw [if_pos ⟨c, c2⟩]; rw [c2] at this ⊢; exact this
      · rw [if_neg (fun h => c2 h.2)]; rw [Bool.not_eq_true] at c2; rw [c2] at this ⊢; exact this
    · rw [if_neg (fun h => c h.1)]
      exact Ev.ifn c (dj1_to (s := s) (x := P.1) sa sb hm true)
  unfold decimal_Parse.f
  rw [hc]
  simp only [Option.bind_some]
  by_cases c : ns B = []
  · rw [if_pos c] at hB
    exact Ev.ifp (ns_nil_iff.2 c) (j0 _ hB)
  · rw [if_neg c] at hB
    exact Ev.ifn (fun h => c (ns_nil_iff.1 h)) (j0 _ hB)
end Go.Proofs.YtjgmmaeafodpmaaGreatDoor.Lib
set_option linter.unusedVariables false
set_option linter.unusedSimpArgs false
namespace Go.Proofs.YtjgmmaeafodpmaaGreatDoor.Lib
open Go.RowKit Go.Proofs.YtjgmmaeafodpmaaGreatDoorW.PrintWords Go.Proofs.YtjgmmaeafodpmaaGreatDoorW.PrintMore Go.Proofs.YtjgmmaeafodpmaaGreatDoor.P
variable {m p : Nat} {a b c d l : List Int} {x y : Bool} {q r : Rat}
theorem digit1 : Ev (fun k => digits_Parse.f k (⟨#[49]⟩ : ByteArray)) (L 1, true) := by
  have e : ns (⟨#[49]⟩ : ByteArray) = [49] := by decide
  exact Parse_to (by rw [e]; decide) (by rw [e]; decide) (by rw [e]; exact (Dg_dec _).2 (by decide)) (by rw [e]; decide)
theorem EX_parts (q : Rat) : ns (EX q) = if q.den = 1 then ns (TZ q.num) else ns (TZ q.num) ++ 47 :: tx q.den := by
  unfold EX
  split
  · rfl
  · rw [ns_append, ns_append, ns_T]; rfl
theorem EX_size (h : Qs q) : (EX q).size ≤ 1000000 := by
  have s1 := TZ_size h.1 (by omega)
  have s2 := T_size h.2 (by omega)
  unfold EX
  split
  · omega
  · rw [ByteArray.size_append, ByteArray.size_append]
    have : (⟨#[47]⟩ : ByteArray).size = 1 := rfl
    omega
theorem PR_self (h : Qs q) : PR (cz q.num).1 (cz q.num).2 (L q.den) (EX q) = ((cz q.num).1, (cz q.num).2, L q.den, 0) := by
  unfold PR
  rw [V_L, vz_cz, Rat.mkRat_self, if_neg q.den_nz, if_pos ⟨h, rfl⟩]
theorem tx_Bp {n : Nat} (h : n < Bp m) (hm : 0 < m) : (tx n).length ≤ 10 * m := tx_len_le (Nat.lt_of_lt_of_le h (Bp_ten m)) (by omega)
theorem dParse_EX (h : Qs q) : Ev (fun k => decimal_Parse.f k (EX q)) ((cz q.num).1, (cz q.num).2, L q.den, 0) := by
  have hz := EX_size h
  obtain ⟨A, B, f, hc, hA, hB⟩ := cutc 47 (s := EX q) (by omega)
  rw [show ((47 : UInt8).toNat : Int) = 47 by decide] at hA hB
  have n47 := no47 q.num
  have w1 := wParse_TZ h.1 (by omega)
  have h2 := EX_parts q
  by_cases c : q.den = 1
  · rw [if_pos c] at h2
    have hf : fi 47 (ns (EX q)) = (ns (EX q)).length := by
      have := fi_app n47 []
      rw [List.append_nil, fi_nil, Nat.add_zero] at this
      rw [h2]; exact this
    have eA : A = TZ q.num := ns_inj (by rw [hA, hf, List.take_length, h2])
    have eB : ns B = [] := by rw [hB, hf]; exact List.drop_of_length_le (by omega)
    rw [← eA] at w1
    refine Ev.eq (dParse_gen (RB := (L 1, true)) hc w1 (by rw [if_pos eB]; exact digit1) (Qs_a h) (S_L (one_lt_Bp (by omega))) (by omega)) ?_
    rw [if_pos ⟨rfl, rfl⟩]
    have := PR_self h
    rw [c] at this
    rw [c]; exact this
  · rw [if_neg c] at h2
    have hf : fi 47 (ns (EX q)) = (ns (TZ q.num)).length := by
      have := fi_app n47 (47 :: tx q.den)
      rw [fi_head, Nat.add_zero] at this
      rw [h2]; exact this
    have eA : A = TZ q.num := ns_inj (by rw [hA, hf, h2, List.take_left])
    have eB : ns B = tx q.den := by
      rw [hB, hf, h2, ← List.drop_drop, List.drop_left]; rfl
    have nB : ¬ ns B = [] := by rw [eB]; exact tx_ne _
    rw [← eA] at w1
    have hl : (tx q.den).length ≤ 640 := tx_Bp h.2 (by omega)
    refine Ev.eq (dParse_gen (RB := (L q.den, true)) hc w1 (by rw [if_neg nB]; exact Parse_to (by rw [eB]; exact tx_pos _) (by rw [eB]; omega) (by rw [eB]; exact Dg_tx _) (by rw [eB]; exact pv_tx _)) (Qs_a h) (Qs_b h) (by omega)) ?_
    rw [if_pos ⟨rfl, rfl⟩]
    exact PR_self h
end Go.Proofs.YtjgmmaeafodpmaaGreatDoor.Lib
set_option linter.unusedVariables false
set_option linter.unusedSimpArgs false
namespace Go.Proofs.YtjgmmaeafodpmaaGreatDoor.Lib
open Go.RowKit Go.Proofs.YtjgmmaeafodpmaaGreatDoorW.PrintWords Go.Proofs.YtjgmmaeafodpmaaGreatDoorW.PrintMore Go.Proofs.YtjgmmaeafodpmaaGreatDoor.P
variable {m p : Nat} {a b c d l : List Int} {x y : Bool} {q r : Rat}
theorem toList_ns {s : ByteArray} {l : List UInt8} (h : ns s = l.map fun b => (b.toNat : Int)) : s.toList = l := by
  rw [ByteArray.toList_eq]
  unfold ns at h
  exact (List.map_inj_right (f := fun b : UInt8 => (b.toNat : Int)) (fun a b e => UInt8.toNat_inj.1 (Int.ofNat.inj e))).1 h
theorem toList_PT {z : Int} {l : List UInt8} (h : pt z p = l.map fun b => (b.toNat : Int)) : (PT z p).toList = l := toList_ns (by rw [ns_PT, h])
theorem Down_no {v : Int} (sa : S m a) (sb : S m b) (hm : m ≤ 800000) (h : gq x a b = false ∨ v < 0 ∨ 60 < v) : Ev (fun k => decimal_Down.f k x a b v) ((⟨#[]⟩ : ByteArray), 1) := by
  unfold decimal_Down.f
  exact Ev.bind (dsplit_no sa sb hm h) (Ev.ifn (by decide) (Ev.now _))
theorem parse24 : Ev (fun k => decimal_Parse.f k (⟨#[50, 47, 52]⟩ : ByteArray)) badR := by
  obtain ⟨A, B, f, hc, hA, hB⟩ := cutc 47 (s := (⟨#[50, 47, 52]⟩ : ByteArray)) (by decide)
  have eA : ns A = [50] := by rw [hA]; decide
  have eB : ns B = [52] := by rw [hB]; decide
  have sA : sg A = false := by rw [sg_ns, eA]; rfl
  have rA : rs A = A := by unfold rs; rw [sA, if_neg (by decide)]
  have w1 : Ev (fun k => whole_Parse.f k A) ((cz 2).1, (cz 2).2, true) := wParse_to (n := 2) (by rw [rA, eA]; decide) (by rw [rA, eA]; decide) (by rw [rA, eA]; exact (Dg_dec _).2 (by decide)) (by rw [rA, eA]; decide) (fun h => by rw [sA] at h; cases h) (by rw [sA]; rfl)
  have w2 : Ev (fun k => digits_Parse.f k B) (L 4, true) := Parse_to (by rw [eB]; decide) (by rw [eB]; decide) (by rw [eB]; exact (Dg_dec _).2 (by decide)) (by rw [eB]; decide)
  refine Ev.eq (dParse_gen (P := ((cz 2).1, (cz 2).2, true)) (RB := (L 4, true)) hc w1 (by rw [if_neg (by rw [eB]; decide)]; exact w2) (m := 2) (S_cz (z := 2) (lt_num (x := 2) (by decide) (by omega))) (S_L (m := 2) (n := 4) (lt_num (m := 2) (x := 4) (by decide) (by omega))) (by omega)) ?_
  rw [if_pos ⟨rfl, rfl⟩]
  unfold PR
  rw [V_L, vz_cz, if_neg (by decide), if_neg]
  rintro ⟨_, h⟩
  have := congrArg ns h
  revert this
  decide +kernel
theorem wakes10 : Ev (fun k => steelyardlaw10_wakes.f k) true := by
  have s1 : Qs (mkRat (-1) 3) := by decide +kernel
  have s2 : Qs (mkRat 5 2) := by decide +kernel
  have e0 : (⟨#[45, 49, 47, 51]⟩ : ByteArray) = EX (mkRat (-1) 3) := ns_inj (by decide +kernel)
  have b1 := By_to (u := -1) (n := 3) (by omega) (by omega) (by omega) (by omega) rfl s1
  have b2 := By_to (u := 5) (n := 2) (by omega) (by omega) (by omega) (by omega) rfl s2
  have d1 := Down_to s1 (p := 2) (by omega)
  have d2 := Up_to' s1 (p := 2) (by omega)
  have d3 := Near_to s1 (p := 2) (by omega)
  have d4 := Near_to s2 (p := 0) (by omega)
  have d5 := dParse_EX s1
  rw [← e0] at d5
  have d6 := Floor10_to s1 (p := 1) (by omega)
  have d7 := Down_no (x := (cz (mkRat (-1) 3).num).1) (v := 61) (Qs_a s1) (Qs_b s1) (by omega) (.inr (.inr (by omega)))
  have d8 := dExact_to s1
  have d9 := dExact_to (q := ((7 : Int) : Rat)) (Qs_int (by decide))
  have t1 : (PT (fl (mkRat (-1) 3) 2) 2).toList = ([45, 48, 46, 51, 52] : List UInt8) := toList_PT (by decide +kernel)
  have t2 : (PT (ce (mkRat (-1) 3) 2) 2).toList = ([45, 48, 46, 51, 51] : List UInt8) := toList_PT (by decide +kernel)
  have t3 : (PT (nr (mkRat (-1) 3) 2) 2).toList = ([45, 48, 46, 51, 51] : List UInt8) := toList_PT (by decide +kernel)
  have t4 : (PT (nr (mkRat 5 2) 0) 0).toList = ([50] : List UInt8) := toList_PT (by decide +kernel)
  have t5 : (EX (mkRat (-1) 3)).toList = ([45, 49, 47, 51] : List UInt8) := toList_ns (by decide +kernel)
  have t6 : (EX ((7 : Int) : Rat)).toList = ([55] : List UInt8) := toList_ns (by decide +kernel)
  have f1 : fl (mkRat (-1) 3) 1 = -4 := by decide +kernel
  rw [f1] at d6
  unfold steelyardlaw10_wakes.f
  refine Ev.bind b1 (Ev.bind d1 (Ev.bind d2 (Ev.bind d3 (Ev.bind b2 (Ev.bind d4 (Ev.bind d5 (Ev.bind parse24 (Ev.bind d6 (Ev.bind d7 ?_)))))))))
  refine Ev.ifp rfl (Ev.ifp t1 (Ev.ifp rfl (Ev.ifp t2 (Ev.ifp rfl (Ev.ifp t3 (Ev.ifp rfl (Ev.ifp t4 (Ev.ifp rfl (Ev.bind (keepQ_to s1 rfl) (Ev.ifp rfl (Ev.ifp rfl (Ev.ifp rfl ?_))))))))))))
  refine Ev.bind (wOf_to (v := -4) (by omega) (by omega)) (Ev.bind (keepCz_to (m := 2) (z := -4) (w := -4) (lt_num (by decide) (by omega)) (by omega) rfl) (Ev.ifp rfl (Ev.ifp rfl (Ev.bind d8 (Ev.ifp t5 ?_)))))
  exact Ev.bind (qWhole_to (v := 7) (by omega) (by omega)) (Ev.bind d9 (Ev.const (by rw [t6]; rfl)))
end Go.Proofs.YtjgmmaeafodpmaaGreatDoor.Lib
set_option linter.unusedVariables false
set_option linter.unusedSimpArgs false
namespace Go.Proofs.YtjgmmaeafodpmaaGreatDoor.Lib
open Go.RowKit Go.Proofs.YtjgmmaeafodpmaaGreatDoorW.PrintWords Go.Proofs.YtjgmmaeafodpmaaGreatDoorW.PrintMore Go.Proofs.YtjgmmaeafodpmaaGreatDoor.P
variable {m p : Nat} {a b c d l : List Int} {x y : Bool} {q r : Rat}
end Go.Proofs.YtjgmmaeafodpmaaGreatDoor.Lib
set_option linter.unusedVariables false
set_option linter.unusedSimpArgs false
namespace Go.Proofs.YtjgmmaeafodpmaaGreatDoor.Lib
open Go.RowKit Go.Proofs.YtjgmmaeafodpmaaGreatDoorW.PrintWords Go.Proofs.YtjgmmaeafodpmaaGreatDoorW.PrintMore Go.Proofs.YtjgmmaeafodpmaaGreatDoor.P
variable {m p : Nat} {a b c d l : List Int} {x y : Bool} {q r : Rat}
theorem pv_zeros (z : Nat) (l : List Int) : pv (List.replicate z 48 ++ l) = pv l := by
  induction z with
  | zero => simp
  | succ z ih =>
    rw [List.replicate_succ, List.cons_append, show (48 : Int) :: (List.replicate z 48 ++ l) = [48] ++ (List.replicate z 48 ++ l) from rfl, pv_app, pv_one, ih]
    simp
theorem num_end {s t : ByteArray} {z : Int} {i : Nat} {w : Bool} (hi : i = s.size) (ht : ns t = pad z p) (hz : z.natAbs < Bp m) (hm : m ≤ 150) (hm0 : 0 < m) (hp : p ≤ 60) (hw : w = decide (z < 0)) :
    Ev (fun k => steelyardlaw10_number.l0 k s (p : Int) t w (p : Int) (decide ((p : Int) > 0)) (i : Int)) ((qr (mkRat z (10 ^ p))).1, (qr (mkRat z (10 ^ p))).2.1, (qr (mkRat z (10 ^ p))).2.2.1, ((qr (mkRat z (10 ^ p))).2.2.2 == 0)) := by
  have hl := pad_len z p
  have hx := tx_Bp hz hm0
  have hpv : pv (pad z p) = z.natAbs := by
    unfold pad
    rw [pv_zeros, pv_tx]
  refine Ev.succ ?_
  simp only [steelyardlaw10_number.l0]
  refine Ev.ifn (by omega) ?_
  refine Ev.bind (Parse_to (s := t) (n := z.natAbs) (by rw [ht]; omega) (by rw [ht]; omega) (by rw [ht]; exact Dg_pad z p) (by rw [ht]; exact hpv)) ?_
  refine Ev.bind (Ten_to (n := p) (by omega)) (Ev.ifp rfl (Ev.ifp rfl (Ev.ifp trivial (Ev.ifn (by rw [bne_self_eq_false]; decide) ?_))))
  refine Ev.bind (qOf_to (m := m + 9) (S_L (lt_up hz (by omega))) (S_L (lt_up (ten_Bp (m := 8) (j := p) (by omega)) (by omega))) (by omega) (by rw [V_L]; exact ten_ne p) (q := mkRat z (10 ^ p)) ?_) (Ev.now _)
  rw [V_L, hw, vz_if]
  congr 1
  simp only [decide_eq_true_eq]
  split <;> omega
theorem ns_byte {s : ByteArray} {i : Nat} (h : i < s.size) : ns (s.extract i (i + 1)) = [(ns s).getD i 0] := by
  have hl := ns_len s
  rw [ns_extract, drop_getD _ (by omega), show i + 1 - i = 1 by omega]; rfl
theorem num_digits {s : ByteArray} {X : Bool} {w : Bool} {R : Bool × List Int × List Int × Bool} (hs : s.size ≤ 1000000) : ∀ (D : List Int) (i cnt : Nat) (t : ByteArray), Dg D → (∀ j, j < D.length → (ns s).getD (i + j) 0 = D.getD j 0) → i + D.length ≤ s.size → t.size + D.length ≤ 1000000 → cnt + D.length ≤ 1000000 →
    (∀ t', ns t' = ns t ++ D → Ev (fun k => steelyardlaw10_number.l0 k s (p : Int) t' w ((if X = true then cnt + D.length else cnt : Nat) : Int) X ((i + D.length : Nat) : Int)) R) →
    Ev (fun k => steelyardlaw10_number.l0 k s (p : Int) t w (cnt : Int) X (i : Int)) R
  | [], i, cnt, t, _, _, _, _, _, hK => by
    have := hK t (by rw [List.append_nil])
    simp only [List.length_nil, Nat.add_zero, ite_self] at this
    exact this
  | e :: D, i, cnt, t, hD, hb, h1, h2, h3, hK => by
    have he : 48 ≤ e ∧ e ≤ 57 := hD e (by simp)
    have hbi : bt s (i : Int) = e := by rw [bt_ns]; exact hb 0 (by simp)
    rw [List.length_cons] at h1 h2 h3
    have hn : ns (s.extract i (i + 1)) = [e] := by rw [ns_byte (by omega)]; rw [show (ns s).getD i 0 = e from hb 0 (by simp)]
    have hz : (s.extract i (i + 1)).size = 1 := size_ns hn
    have rc := num_digits (X := X) (w := w) (R := R) hs D (i + 1) (if X = true then cnt + 1 else cnt) (t ++ s.extract i (i + 1)) (fun y hy => hD y (by simp [hy]))
      (fun j hj => by have := hb (j + 1) (by simp; omega); rw [show i + 1 + j = i + (j + 1) by omega]; simpa using this) (by omega) (by rw [ByteArray.size_append]; omega) (by split <;> omega)
      (fun t' ht' => by
        have := hK t' (by rw [ht', ns_append, hn, List.append_assoc]; rfl)
        rw [List.length_cons] at this
        rw [show i + 1 + D.length = i + (D.length + 1) by omega]
        cases X with
        | true => simp only [reduceIte] at this ⊢; rw [show cnt + 1 + D.length = cnt + (D.length + 1) by omega]; exact this
        | false => exact this)
    refine Ev.succ ?_
    simp only [steelyardlaw10_number.l0]
    have j3 : Ev (fun k => steelyardlaw10_number.j3 k s (p : Int) t w (cnt : Int) X (i : Int) true) R := by
      refine Ev.succ ?_
      simp only [steelyardlaw10_number.j3]
      rw [w64_succ (by omega), w64_succ (by omega), Int.toNat_natCast, Int.toNat_natCast]
      refine Ev.ifp trivial (Ev.ifp (by omega) (Ev.ifp (by omega) (Ev.ifp (by omega) (Ev.ifp (by rw [hz]; omega) ?_))))
      cases X with
      | true => exact Ev.ifp rfl rc
      | false => exact Ev.ifn (by decide) rc
    have j2 : Ev (fun k => steelyardlaw10_number.j2 k s (p : Int) t w (cnt : Int) X (i : Int) false) R := by
      refine Ev.succ ?_
      simp only [steelyardlaw10_number.j2]
      rw [hbi, decide_eq_true he.2]
      exact Ev.ifn (by decide) (Ev.ifp (by omega) (Ev.ifp (by omega) (Ev.ifp (by omega) j3)))
    have j1 : Ev (fun k => steelyardlaw10_number.j1 k s (p : Int) t w (cnt : Int) X (i : Int) false) R := by
      refine Ev.succ ?_
      simp only [steelyardlaw10_number.j1]
      rw [hbi]
      exact Ev.ifn (by decide) (Ev.ifp (by omega) (Ev.ifp (by omega) (Ev.ifn (by omega) j2)))
    rw [hbi]
    exact Ev.ifp (by omega) (Ev.ifp (by omega) (Ev.ifn (by omega) j1))
theorem number_to {z : Int} (hz : z.natAbs < Bp m) (hm : m ≤ 150) (hm0 : 0 < m) (hp : p ≤ 60) :
    Ev (fun k => steelyardlaw10_number.f k (PT z p) (p : Int)) ((qr (mkRat z (10 ^ p))).1, (qr (mkRat z (10 ^ p))).2.1, (qr (mkRat z (10 ^ p))).2.2.1, ((qr (mkRat z (10 ^ p))).2.2.2 == 0)) := by
  have hl := pad_len z p
  have hx := tx_Bp hz hm0
  have hpt : ns (PT z p) = pt z p := ns_PT z p
  generalize hRe : ((qr (mkRat z (10 ^ p))).1, (qr (mkRat z (10 ^ p))).2.1, (qr (mkRat z (10 ^ p))).2.2.1, ((qr (mkRat z (10 ^ p))).2.2.2 == 0)) = R
  have fin : ∀ (t : ByteArray) (i : Nat), i = (PT z p).size → ns t = pad z p → Ev (fun k => steelyardlaw10_number.l0 k (PT z p) (p : Int) t (decide (z < 0)) (p : Int) (decide ((p : Int) > 0)) (i : Int)) R := fun t i hi ht => hRe ▸ num_end hi ht hz hm hm0 hp rfl
  generalize hs : PT z p = s at *
  have hsz : s.size = (pt z p).length := size_ns hpt
  -- after the sign
  have body : ∀ i : Nat, ns s = (ns s).take i ++ ptl z p → i ≤ 1 → i + (ptl z p).length = s.size → Ev (fun k => steelyardlaw10_number.l0 k s (p : Int) (⟨#[]⟩ : ByteArray) (decide (z < 0)) 0 false (i : Int)) R := fun i hi hi1 hsz2 => by
    have hil : ((ns s).take i).length = i := by
      rw [List.length_take, ns_len]; omega
    have at_ : ∀ j, (ns s).getD (i + j) 0 = (ptl z p).getD j 0 := fun j => by
      rw [List.getD_eq_getElem?_getD, List.getD_eq_getElem?_getD]
      conv => lhs; rw [hi]
      rw [List.getElem?_append_right (by omega), hil, Nat.add_sub_cancel_left]
    by_cases c : p = 0
    · have e0 : ptl z p = pad z p := by unfold ptl; rw [if_pos c, List.append_nil, c, Nat.sub_zero, List.take_length]
      rw [e0] at at_ hsz2
      have := num_digits (p := p) (X := false) (w := decide (z < 0)) (R := R) (s := s) (by omega) (pad z p) i 0 (⟨#[]⟩ : ByteArray) (Dg_pad z p) (fun j _ => at_ j) (by omega) (by have : (⟨#[]⟩ : ByteArray).size = 0 := rfl
                                                                                                                                                                                   omega) (by omega) (fun t' ht' => by
          have := fin t' (i + (pad z p).length) hsz2 (by rw [ht']; rfl)
          subst c
          exact this)
      exact this
    · have e0 : ptl z p = (pad z p).take ((pad z p).length - p) ++ 46 :: (pad z p).drop ((pad z p).length - p) := by unfold ptl; rw [if_neg c]
      have l1 : ((pad z p).take ((pad z p).length - p)).length = (pad z p).length - p := by rw [List.length_take]; omega
      have l2 : ((pad z p).drop ((pad z p).length - p)).length = p := by rw [List.length_drop]; omega
      have lt : (ptl z p).length = (pad z p).length + 1 := by rw [e0, List.length_append, List.length_cons, l1, l2]; omega
      generalize hA : (pad z p).take ((pad z p).length - p) = A at *
      generalize hB : (pad z p).drop ((pad z p).length - p) = B at *
      have hAB : A ++ B = pad z p := by rw [← hA, ← hB]; exact List.take_append_drop _ _
      have dA : Dg A := by rw [← hA]; exact Dg_take (Dg_pad z p) _
      have dB : Dg B := by rw [← hB]; exact Dg_drop (Dg_pad z p) _
      have s0 : (⟨#[]⟩ : ByteArray).size = 0 := rfl
      refine num_digits (p := p) (X := false) (w := decide (z < 0)) (R := R) (s := s) (by omega) A i 0 (⟨#[]⟩ : ByteArray) dA (fun j hj => ?_) (by omega) (by omega) (by omega) (fun t' ht' => ?_)
      · rw [at_, e0, List.getD_eq_getElem?_getD, List.getD_eq_getElem?_getD, List.getElem?_append_left hj]
      have b46 : bt s ((i + A.length : Nat) : Int) = 46 := by
        rw [bt_ns, at_, e0, List.getD_eq_getElem?_getD, List.getElem?_append_right (Nat.le_refl _), Nat.sub_self]; rfl
      have st' : t'.size = A.length := by rw [size_ns ht', List.length_append, ns_len, s0]; omega
      have dg2 : Ev (fun k => steelyardlaw10_number.l0 k s (p : Int) t' (decide (z < 0)) ((0 : Nat) : Int) true ((i + A.length + 1 : Nat) : Int)) R := by
        refine num_digits (p := p) (X := true) (w := decide (z < 0)) (R := R) (s := s) (by omega) B (i + A.length + 1) 0 t' dB (fun j hj => ?_) (by omega) (by omega) (by omega) (fun t2 ht2 => ?_)
        · rw [show i + A.length + 1 + j = i + (A.length + 1 + j) by omega, at_, e0, List.getD_eq_getElem?_getD, List.getD_eq_getElem?_getD, List.getElem?_append_right (by omega), show A.length + 1 + j - A.length = j + 1 by omega]; rfl
        · have := fin t2 (i + A.length + 1 + B.length) (by omega) (by rw [ht2, ht', ← hAB]; rfl)
          rw [decide_eq_true (show (p : Int) > 0 by omega)] at this
          simp only [reduceIte, Nat.zero_add]
          rw [l2] at this ⊢
          exact this
      simp only [Bool.false_eq_true, reduceIte]
      refine Ev.succ ?_
      simp only [steelyardlaw10_number.l0]
      rw [b46]
      refine Ev.ifp (by omega) (Ev.ifp (by omega) (Ev.ifn (by decide) (Ev.succ ?_)))
      simp only [steelyardlaw10_number.j1]
      rw [b46]
      refine Ev.ifn (by decide) (Ev.ifp (by omega) (Ev.ifp (by omega) (Ev.ifp rfl (Ev.succ ?_))))
      simp only [steelyardlaw10_number.j2]
      rw [w64_succ (by omega)]
      exact Ev.ifp (by decide) dg2
  unfold steelyardlaw10_number.f
  by_cases cz' : z < 0
  · have e1 : pt z p = 45 :: ptl z p := by unfold pt; rw [if_pos cz']
    rw [e1] at hpt hsz
    rw [List.length_cons] at hsz
    have lpt : 0 < s.size := by omega
    have b45 : bt s 0 = 45 := by
      have := bt_ns s 0
      rw [hpt] at this; exact this
    have := body 1 (by rw [hpt]; rfl) (by omega) (by omega)
    rw [decide_eq_true cz'] at this
    refine Ev.succ ?_
    simp only [steelyardlaw10_number.l0]
    rw [b45]
    refine Ev.ifp (by omega) (Ev.ifp (by omega) (Ev.ifp rfl (Ev.succ ?_)))
    simp only [steelyardlaw10_number.j1]
    rw [show wrap64 ((0 : Int) + 1) = ((1 : Nat) : Int) by rw [w64 (by omega) (by omega)]; rfl]
    exact Ev.ifp (by decide) this
  · have e1 : pt z p = ptl z p := by unfold pt; rw [if_neg cz']
    rw [e1] at hpt hsz
    have := body 0 (by rw [hpt]; rfl) (by omega) (by omega)
    rw [decide_eq_false cz'] at this
    exact this
end Go.Proofs.YtjgmmaeafodpmaaGreatDoor.Lib
set_option linter.unusedVariables false
set_option linter.unusedSimpArgs false
namespace Go.Proofs.YtjgmmaeafodpmaaGreatDoor.Lib
open Go.RowKit Go.Proofs.YtjgmmaeafodpmaaGreatDoorW.PrintWords Go.Proofs.YtjgmmaeafodpmaaGreatDoorW.PrintMore Go.Proofs.YtjgmmaeafodpmaaGreatDoor.P
variable {m p : Nat} {a b c d l : List Int} {x y : Bool} {q r : Rat}
theorem fl_ltm (h : q.num.natAbs < Bp m) (hm : 0 < m) (hp : p ≤ 60) : (fl q p).natAbs < Bp (m + 10) ∧ (ce q p).natAbs < Bp (m + 11) ∧ (nr q p).natAbs < Bp (m + 11) := by
  obtain ⟨h1, h2, h3, h4⟩ := split_nat q p rfl rfl
  have hQ : q.num.natAbs * 10 ^ p / q.den < Bp (m + 9) := Nat.lt_of_le_of_lt (Nat.div_le_self _ _) (lt_mul h (ten_Bp (m := 8) (j := p) (by omega)) (by omega))
  generalize q.num.natAbs * 10 ^ p / q.den = Q at *
  generalize q.num.natAbs * 10 ^ p % q.den = R at *
  have h1 : (1 : Int).natAbs < Bp (m + 9) := one_lt_Bp (by omega)
  have hf : (fl q p).natAbs < Bp (m + 10) := by
    by_cases c : 0 ≤ q.num
    · rw [(h2 c).1, Int.natAbs_natCast]; exact lt_up hQ (by omega)
    · by_cases c' : R = 0
      · rw [(h3 (by omega) c').1, Int.natAbs_neg, Int.natAbs_natCast]; exact lt_up hQ (by omega)
      · rw [(h4 (by omega) c').1]
        exact na_add (m := m + 9) (by rw [Int.natAbs_neg, Int.natAbs_natCast]; exact hQ) (by rw [Int.natAbs_neg]; exact h1) (by omega)
  have hc : (ce q p).natAbs < Bp (m + 11) := by
    unfold ce
    split
    · exact lt_up hf (by omega)
    · exact na_add hf (lt_up h1 (by omega)) (by omega)
  refine ⟨hf, hc, ?_⟩
  unfold nr
  split
  · exact hc
  · exact lt_up hf (by omega)
theorem Qs_ten {z : Int} (h : z.natAbs < Bp 40) (hp : p ≤ 60) : Qs (mkRat z (10 ^ p)) := Qs_mk (ten_ne p) (lt_up h (by omega)) (lt_up (ten_Bp (m := 8) (j := p) (by omega)) (by omega))
theorem numq_to {z : Int} (hz : z.natAbs < Bp 40) (hp : p ≤ 60) : Ev (fun k => steelyardlaw10_number.f k (PT z p) (p : Int)) ((cz (mkRat z (10 ^ p)).num).1, (cz (mkRat z (10 ^ p)).num).2, L (mkRat z (10 ^ p)).den, true) := by
  have := number_to hz (by omega) (by omega) hp
  rw [qr_yes (Qs_ten hz hp)] at this
  exact this
theorem tmod20 {v : Int} (h : (Lit.int .u8 v).wf = true) : ∃ p : Nat, p < 20 ∧ Int.tmod (wrap64 v) 20 = (p : Int) := by
  have b := bounds_u8 h
  refine ⟨(v % 20).toNat, by omega, ?_⟩
  rw [w64 (by omega) (by omega), Int.tmod_eq_emod_of_nonneg (by omega)]
  omega
theorem len20 (h : Qs q) (h1 : ¬ (((cz q.num).2.length : Int) > 20)) (h2 : ¬ (((L q.den).length : Int) > 20)) : q.num.natAbs < Bp 20 ∧ q.den < Bp 20 := by
  rw [cz2] at h1
  have := @len_gt q.num.natAbs 20
  have h3 := @len_gt q.den 20
  constructor
  · exact Classical.not_not.1 fun e => h1 (this.2 e)
  · exact Classical.not_not.1 fun e => h2 (h3.2 e)
theorem rtrim_any (l : List Int) (hl : l.length ≤ 4611686018427387904) : ∃ t, steelyardref07_trimmed.f l = some t := by
  unfold steelyardref07_trimmed.f
  by_cases h0 : l.length = 0
  · exact ⟨_, by rw [if_pos (by omega)]⟩
  · exact ⟨_, by rw [if_neg (by omega), w64_pred (by omega) (by omega), if_pos (by omega), if_pos (by omega)]⟩
theorem rGood_long (ha : a.length ≤ 4611686018427387904) (hb : b.length ≤ 4611686018427387904) (h : 64 < a.length ∨ 64 < b.length) : Ev (fun k => steelyardref07_Good.f k x a b) false := by
  obtain ⟨t, ht⟩ := rtrim_any a ha
  obtain ⟨u, hu⟩ := rtrim_any b hb
  unfold steelyardref07_Good.f
  rw [ht, hu]
  simp only [Option.bind_some]
  have tail : ∀ G : Nat → Option Bool, Ev (fun k => if (a.length : Int) > 64 then some false else if (b.length : Int) > 64 then some false else G k) false := fun G => by
    by_cases c : (a.length : Int) > 64
    · exact Ev.ifp c (Ev.now _)
    · exact Ev.ifn c (Ev.ifp (by omega) (Ev.now _))
  cases t with
  | false => exact Ev.ifn (by decide) (Ev.now _)
  | true =>
    refine Ev.ifp rfl ?_
    cases u with
    | false => exact Ev.ifn (by decide) (Ev.now _)
    | true =>
      refine Ev.ifp rfl ?_
      by_cases h0 : (b.length : Int) = 0
      · exact Ev.ifp h0 (Ev.now _)
      · refine Ev.ifn h0 ?_
        cases x with
        | false => exact Ev.ifn (by decide) (tail _)
        | true =>
          refine Ev.ifp rfl ?_
          by_cases h1 : (a.length : Int) = 0
          · exact Ev.ifp h1 (Ev.now _)
          · exact Ev.ifn h1 (tail _)
theorem good20 (wa : ∀ x ∈ a, (Lit.int .u32 x).wf = true) (wb : ∀ x ∈ b, (Lit.int .u32 x).wf = true) (ha : a.length * 4 ≤ 140737488351232) (hb : b.length * 4 ≤ 140737488351232) :
    Ev (fun k => steelyardref07_Good.f k x a b) false ∨ (Ev (fun k => steelyardref07_Good.f k x a b) true ∧ ∃ q : Rat, Qs q ∧ x = (cz q.num).1 ∧ a = (cz q.num).2 ∧ b = L q.den) := by
  by_cases c : 64 < a.length ∨ 64 < b.length
  · exact .inl (rGood_long (by omega) (by omega) c)
  · have sa : S 64 a := ⟨wf_u32 wa, by omega⟩
    have sb : S 64 b := ⟨wf_u32 wb, by omega⟩
    have h := rGood_ev (x := x) sa sb (by omega)
    cases g : gq x a b with
    | false => rw [g] at h; exact .inl h
    | true => rw [g] at h; exact .inr ⟨h, gq_spec g⟩
end Go.Proofs.YtjgmmaeafodpmaaGreatDoor.Lib
set_option linter.unusedVariables false
set_option linter.unusedSimpArgs false
namespace Go.Proofs.YtjgmmaeafodpmaaGreatDoor.Lib
open Go.RowKit Go.Proofs.YtjgmmaeafodpmaaGreatDoorW.PrintWords Go.Proofs.YtjgmmaeafodpmaaGreatDoorW.PrintMore Go.Proofs.YtjgmmaeafodpmaaGreatDoor.P
variable {m p j : Nat} {a b c d l : List Int} {x y : Bool} {q r : Rat}
theorem leS {x y s : Rat} (hs : 0 < s) {u w : Int} (hx : x * s = u) (hy : y * s = w) : x ≤ y ↔ u ≤ w := by
  constructor
  · intro h
    have := Rat.mul_le_mul_of_nonneg_right h (Rat.le_of_lt hs)
    rw [hx, hy] at this
    exact Rat.intCast_le_intCast.1 this
  · intro h
    refine Rat.le_of_mul_le_mul_right (c := s) ?_ hs
    rw [hx, hy]
    exact Rat.intCast_le_intCast.2 h
theorem tenS (p : Nat) : (0 : Rat) < ((10 ^ p : Nat) : Rat) := Rat.natCast_pos.2 (Nat.pos_of_ne_zero (ten_ne p))
theorem qD (q : Rat) : q * (q.den : Rat) = (q.num : Rat) := by
  have hd : (0 : Rat) < (q.den : Rat) := Rat.natCast_pos.2 (Nat.pos_of_ne_zero q.den_nz)
  have h1 : q = (q.num : Rat) / (q.den : Rat) := (Rat.mkRat_self q).symm.trans (mk_div _ _)
  have h2 := Rat.ne_of_gt hd
  generalize (q.den : Rat) = D at *
  generalize (q.num : Rat) = M at *
  rw [h1]; grind
theorem mkS (z : Int) (p j : Nat) : mkRat z (10 ^ p) * ((10 ^ (p + j) : Nat) : Rat) = ((z * (10 ^ j : Nat) : Int) : Rat) := by
  have h2 := Rat.ne_of_gt (tenS p)
  have h3 : (((10 ^ j : Nat) : Int) : Rat) = ((10 ^ j : Nat) : Rat) := rfl
  rw [mk_div, Rat.intCast_mul, Nat.pow_add, Rat.natCast_mul, h3]
  generalize ((10 ^ p : Nat) : Rat) = T at *
  generalize ((10 ^ j : Nat) : Rat) = J at *
  grind
theorem mk_leZ {z w : Int} (h : z ≤ w) (p : Nat) : mkRat z (10 ^ p) ≤ mkRat w (10 ^ p) := by
  refine (leS (tenS (p + 0)) (mkS _ p 0) (mkS _ p 0)).2 ?_
  rw [show ((10 ^ 0 : Nat) : Int) = 1 from rfl]
  omega
theorem Qs60 {z : Int} (h : z.natAbs < Bp 60) (hp : p ≤ 60) : Qs (mkRat z (10 ^ p)) := Qs_mk (ten_ne p) (lt_up h (by omega)) (lt_up (ten_Bp (m := 8) (j := p) (by omega)) (by omega))
theorem numq60 {z : Int} (hz : z.natAbs < Bp 60) (hp : p ≤ 60) : Ev (fun k => steelyardlaw10_number.f k (PT z p) (p : Int)) ((cz (mkRat z (10 ^ p)).num).1, (cz (mkRat z (10 ^ p)).num).2, L (mkRat z (10 ^ p)).den, true) := by
  have := number_to hz (by omega) (by omega) hp
  rw [qr_yes (Qs60 hz hp)] at this
  exact this
theorem cross_leZ (h : q ≤ r) : q.num * (r.den : Int) ≤ r.num * (q.den : Int) := by
  have hq := qD q
  have hr := qD r
  have d1 : (0 : Rat) < (q.den : Rat) := Rat.natCast_pos.2 (Nat.pos_of_ne_zero q.den_nz)
  have d2 : (0 : Rat) < (r.den : Rat) := Rat.natCast_pos.2 (Nat.pos_of_ne_zero r.den_nz)
  have h3 : (((q.den : Nat) : Int) : Rat) = (q.den : Rat) := rfl
  have h4 : (((r.den : Nat) : Int) : Rat) = (r.den : Rat) := rfl
  exact (leS (Rat.mul_pos d1 d2) (x := q) (y := r) (by rw [Rat.intCast_mul, h4, ← hq]; grind) (by rw [Rat.intCast_mul, h3, ← hr]; grind)).1 h
theorem cross_T (h : q ≤ r) (p : Nat) : (fl q p * q.den + fr q p) * (r.den : Int) ≤ (fl r p * r.den + fr r p) * (q.den : Int) := by
  have := Int.mul_le_mul_of_nonneg_right (cross_leZ h) (Int.natCast_nonneg (10 ^ p))
  rw [← fl_fr, ← fl_fr]
  generalize ((10 ^ p : Nat) : Int) = T at *
  rw [Int.mul_right_comm, Int.mul_right_comm r.num]
  exact this
theorem fl_mono (h : q ≤ r) (p : Nat) : fl q p ≤ fl r p := by
  have c := cross_T h p
  have a1 := fr_range q p
  have a2 := fr_range r p
  have d1 := den_pos' q
  have d2 := den_pos' r
  generalize fl q p = f at *
  generalize fl r p = g at *
  generalize fr q p = s at *
  generalize fr r p = t at *
  generalize (q.den : Int) = d at *
  generalize (r.den : Int) = e at *
  rcases (by omega : g < f ∨ f ≤ g) with k | k
  · exfalso
    have b0 : (g + 1) * d ≤ f * d := Int.mul_le_mul_of_nonneg_right (by omega) (by omega)
    have b1 : (g + 1) * d * e ≤ (f * d + s) * e := Int.mul_le_mul_of_nonneg_right (by omega) (by omega)
    have b2 : (g * e + t) * d < (g * e + e) * d := Int.mul_lt_mul_of_pos_right (by omega) d1
    have b3 : (g * e + e) * d = (g + 1) * d * e := by rw [Int.mul_right_comm, Int.add_mul g, Int.one_mul]
    omega
  · exact k
theorem fr_mono (h : q ≤ r) (p : Nat) (e : fl q p = fl r p) : fr q p * (r.den : Int) ≤ fr r p * (q.den : Int) := by
  have c := cross_T h p
  rw [e, Int.add_mul, Int.add_mul, Int.mul_right_comm (fl r p) (r.den : Int)] at c
  omega
theorem ce_mono (h : q ≤ r) (p : Nat) : ce q p ≤ ce r p := by
  have f := fl_mono h p
  have a1 := fr_range q p
  have a2 := fr_range r p
  unfold ce
  split <;> split
  · exact f
  · omega
  · rename_i n0 z0
    rcases Int.lt_or_eq_of_le f with k | k
    · omega
    · exfalso
      have m := fr_mono h p k
      rw [z0, Int.zero_mul] at m
      have : 0 < fr q p * (r.den : Int) := Int.mul_pos (by omega) (den_pos' r)
      omega
  · omega
theorem nr_eq (q : Rat) (p : Nat) : nr q p = if (q.den : Int) < 2 * fr q p ∨ (2 * fr q p = q.den ∧ (fl q p).natAbs.testBit 0 = true) then fl q p + 1 else fl q p := by
  have d1 := den_pos' q
  have a1 := fr_range q p
  unfold nr side ce
  rcases cmpZ_cases (2 * fr q p) q.den with ⟨k, e⟩ | ⟨k, e⟩ | ⟨k, e⟩
  · rw [e, if_neg (by omega), if_neg (by omega)]
  · have z0 : ¬ fr q p = 0 := by omega
    rw [e, if_neg z0]
    by_cases b : (fl q p).natAbs.testBit 0 = true
    · rw [if_pos (.inr ⟨rfl, b⟩), if_pos (.inr ⟨k, b⟩)]
    · rw [if_neg (fun z => z.elim (by omega) (fun z => b z.2)), if_neg (fun z => z.elim (by omega) (fun z => b z.2))]
  · have z0 : ¬ fr q p = 0 := by omega
    rw [e, if_neg z0, if_pos (.inl (by omega)), if_pos (.inl k)]
theorem nr_mono (h : q ≤ r) (p : Nat) : nr q p ≤ nr r p := by
  have f := fl_mono h p
  have d1 := den_pos' q
  have d2 := den_pos' r
  rw [nr_eq, nr_eq]
  rcases Int.lt_or_eq_of_le f with k | k
  · split <;> split <;> omega
  · have m := fr_mono h p k
    rw [k]
    split
    · rename_i u
      rw [if_pos]
      · omega
      · have up : ∀ w : Int, w ≤ 2 * fr q p → w * (r.den : Int) ≤ 2 * fr r p * (q.den : Int) := fun w hw => by
          have b1 := Int.mul_le_mul_of_nonneg_right hw (Int.le_of_lt d2)
          rw [Int.mul_assoc] at b1 ⊢
          omega
        rcases u with u | ⟨u, o⟩
        · left
          have b := up (q.den + 1) (by omega)
          rw [Int.add_mul, Int.one_mul, Int.mul_comm (q.den : Int)] at b
          exact Int.lt_of_mul_lt_mul_right (a := (q.den : Int)) (by omega) (by omega)
        · have b := up q.den (by omega)
          rw [Int.mul_comm (q.den : Int)] at b
          have := Int.le_of_mul_le_mul_right b d1
          by_cases z : 2 * fr r p = r.den
          · exact .inr ⟨z, o⟩
          · left; omega
    · split <;> omega
end Go.Proofs.YtjgmmaeafodpmaaGreatDoor.Lib

/- Rational numbers: each is told in one way (core's Rat); what package rat makes of them. · Rational numbers, second part: the reference 07; sums, products and quotients of package rat. · Texts of numbers as they are written: which they are, the longest one that a text begins with. No program in sight. · Powers of ten as rational numbers; digits of numbers, once more. No program in sight. · strings.Cut at one byte. · Rational numbers, third part: which is greater, on which side of 0, the negative; more of the reference 07. · Decimal texts: a rational number times a power of ten, downwards and upwards; a whole number with a point. · Decimal texts as the reference 10 tells them: the same as package decimal's. · Exact texts of rational numbers, and what both readers make of a text. · Both readers of a text say the same; the text of a rational number read again. · The look whether package decimal wakes: it does. · Helps of the laws about decimal texts. · The number that a decimal text tells. · Floor, ceiling and the nearest one of the opposite number; sizes; numbers of texts. · Rational numbers side by side; of a greater number what is rounded down, up, or to the nearest is not less. · Roots of rational numbers between two numbers of some places. · Bounds of a root: their sizes, what they are by definition; their texts; whether package enclose wakes. · Bounds of a root with more places, of a square; numbers of so many places side by side. -/
import Derived.Test.YtjgmmaeafodpmaaGreatDoorMl
import Derived.Test.YtjgmmaeafodpmaaGreatDoorMx
set_option linter.unusedVariables false
set_option linter.unusedSimpArgs false
namespace Go.Proofs.YtjgmmaeafodpmaaGreatDoor.Lib
open Go.RowKit Go.Proofs.YtjgmmaeafodpmaaGreatDoorW.PrintWords Go.Proofs.YtjgmmaeafodpmaaGreatDoorW.PrintMore Go.Proofs.YtjgmmaeafodpmaaGreatDoor.P
variable {m p : Nat} {a b c d l : List Int} {x y : Bool} {q r : Rat}
def Qs (q : Rat) : Prop := q.num.natAbs < Bp 64 ∧ q.den < Bp 64
instance (q : Rat) : Decidable (Qs q) := inferInstanceAs (Decidable (_ ∧ _))
def qr (q : Rat) : Bool × List Int × List Int × Int := if Qs q then ((cz q.num).1, (cz q.num).2, L q.den, 0) else (false, [], [], 2)
theorem qr_yes (h : Qs q) : qr q = ((cz q.num).1, (cz q.num).2, L q.den, 0) := if_pos h
theorem qr_no (h : ¬ Qs q) : qr q = (false, [], [], 2) := if_neg h
theorem len_gt {n m : Nat} : ((L n).length : Int) > m ↔ ¬ n < Bp m := by
  have : (L n).length ≤ m ↔ n < Bp m := len_le_iff
  omega
theorem len0 {n : Nat} : ((L n).length : Int) = 0 ↔ n = 0 := by
  have := @L_len_zero n
  omega
theorem mk_num {z : Int} {n : Nat} (h : n ≠ 0) : (mkRat z n).num.natAbs = z.natAbs / Nat.gcd z.natAbs n := by
  rw [Rat.num_mkRat, if_neg h, Nat.gcd_comm]
  exact Int.natAbs_ediv_of_dvd (Int.ofNat_dvd_left.2 (Nat.gcd_dvd_left _ _))
theorem mk_den {z : Int} {n : Nat} (h : n ≠ 0) : (mkRat z n).den = n / Nat.gcd z.natAbs n := by
  rw [Rat.den_mkRat, if_neg h, Nat.gcd_comm]
theorem mk_neg {z : Int} {n : Nat} (h : n ≠ 0) : decide (z < 0) = decide ((mkRat z n).num < 0) := by
  rw [Rat.num_mkRat, if_neg h]
  have hg : 0 < Nat.gcd n z.natAbs := Nat.gcd_pos_of_pos_left _ (by omega)
  obtain ⟨c, hc⟩ : ((Nat.gcd n z.natAbs : Nat) : Int) ∣ z := Int.ofNat_dvd_left.2 (Nat.gcd_dvd_right _ _)
  generalize Nat.gcd n z.natAbs = g at hg hc ⊢
  subst hc
  have e : (g : Int) * c / (g : Int) = c := Int.mul_ediv_cancel_left _ (by omega)
  rw [e, decide_eq_decide]
  have hg' : (0 : Int) < g := by omega
  constructor
  · intro hlt
    rcases Int.lt_or_le c 0 with hc | hc
    · exact hc
    · have := Int.mul_nonneg (Int.le_of_lt hg') hc; omega
  · intro hc
    exact Int.mul_neg_of_pos_of_neg hg' hc
theorem gcd_lt {z : Int} {n m : Nat} (h : n ≠ 0) (hn : n < Bp m) : Nat.gcd z.natAbs n < Bp m := Nat.lt_of_le_of_lt (Nat.le_of_dvd (by omega) (Nat.gcd_dvd_right _ _)) hn
theorem gcd_ne {z : Int} {n : Nat} (h : n ≠ 0) : Nat.gcd z.natAbs n ≠ 0 := fun e => h (Nat.eq_zero_of_gcd_eq_zero_right e)
theorem qOf_to (sa : S m a) (sb : S m b) (hm : m ≤ 800000) (h0 : V b ≠ 0) (hq : mkRat (vz x a) (V b) = q) : Ev (fun k => rat_Of.f k x a b) (qr q) := by
  unfold rat_Of.f
  refine Ev.bind (wTrim_to sa (by omega) rfl) (Ev.bind (Trim_to sb (by omega) rfl) ?_)
  refine Ev.ifn (by rw [len0]; exact h0) ?_
  have sz : S m (cz (vz x a)).2 := S_cz (S_vz x sa)
  have sb' : S m (L (V b)) := S_L sb.v
  have ez : V (cz (vz x a)).2 = (vz x a).natAbs := by rw [cz2, V_L]
  refine Ev.bind (Gcd_to sz sb' hm (n := Nat.gcd (vz x a).natAbs (V b)) (by rw [ez, V_L])) ?_
  have sg : S m (L (Nat.gcd (vz x a).natAbs (V b))) := S_L (gcd_lt h0 sb.v)
  have g0 : V (L (Nat.gcd (vz x a).natAbs (V b))) ≠ 0 := by rw [V_L]; exact gcd_ne h0
  refine Ev.bind (Rem_to sz sg hm hm g0 (q := q.num.natAbs) (by rw [ez, V_L, ← hq, mk_num h0]) rfl) ?_
  refine Ev.bind (Rem_to sb' sg hm hm g0 (q := q.den) (by rw [V_L, V_L, ← hq, mk_den h0]) rfl) ?_
  by_cases h1 : q.num.natAbs < Bp 64
  · refine Ev.ifn (fun e => len_gt.1 e h1) ?_
    by_cases h2 : q.den < Bp 64
    · refine Ev.ifn (fun e => len_gt.1 e h2) (Ev.const ?_)
      rw [qr_yes ⟨h1, h2⟩, cz1, cz1, mk_neg h0, hq]; rfl
    · exact Ev.ifp (len_gt.2 h2) (Ev.const (by rw [qr_no (fun e => h2 e.2)]))
  · exact Ev.ifp (len_gt.2 h1) (Ev.const (by rw [qr_no (fun e => h1 e.1)]))
theorem last_zero {l : List Int} (hw : W l) (h0 : l.length ≠ 0) : l.getD (l.length - 1) 0 = 0 ↔ ¬ l = L (V l) := by
  constructor
  · intro h e
    have hv : V l ≠ 0 := fun z => h0 (by rw [e, z, L_zero]; rfl)
    have := L_last hv
    rw [← e] at this
    exact this h
  · intro h
    by_cases hu : U l = l.length
    · exact absurd (by have := take_U hw; rw [hu, List.take_length] at this; exact this) h
    · have := U_le hw
      exact tail_zero hw (by omega)
theorem trimmed_to (s : S m l) (hm : m ≤ 1000000) : rat_trimmed.f l = some (decide (l = L (V l))) := by
  unfold rat_trimmed.f
  by_cases h0 : l.length = 0
  · obtain rfl := List.eq_nil_of_length_eq_zero h0
    rw [if_pos (by decide), V_nil, L_zero]; rfl
  · have hl := s.2
    rw [if_neg (by omega), w64_pred (by omega) (by omega), if_pos (by omega), if_pos (by omega), rd_nat]
    have := last_zero s.1 h0
    by_cases e : l = L (V l)
    · rw [decide_eq_true e]
      have : l.getD (l.length - 1) 0 ≠ 0 := fun z => this.1 z e
      rw [bne_iff_ne.2 this]
    · rw [decide_eq_false e]
      have := this.2 e
      rw [this]; rfl
def gq (x : Bool) (a b : List Int) : Bool :=
  decide (a = L (V a)) && decide (b = L (V b)) && decide (V b ≠ 0) && decide (V a < Bp 64) && decide (V b < Bp 64) && !(x && decide (V a = 0)) && decide (Nat.gcd (V a) (V b) = 1)
theorem gq_spec (h : gq x a b = true) : ∃ q : Rat, Qs q ∧ x = (cz q.num).1 ∧ a = (cz q.num).2 ∧ b = L q.den := by
  simp only [gq, Bool.and_eq_true, decide_eq_true_eq, Bool.not_eq_true', Bool.and_eq_false_iff, decide_eq_false_iff_not] at h
  obtain ⟨⟨⟨⟨⟨⟨h1, h2⟩, h3⟩, h4⟩, h5⟩, h6⟩, h7⟩ := h
  have e : (vz x a).natAbs = V a := vz_abs x a
  refine ⟨⟨vz x a, V b, h3, show Nat.gcd (vz x a).natAbs (V b) = 1 by rw [e]; exact h7⟩, ⟨show (vz x a).natAbs < Bp 64 by rw [e]; exact h4, h5⟩, ?_, ?_, h2⟩
  · show x = decide (vz x a < 0)
    cases x with
    | false => exact (decide_eq_false (by rw [vz_f]; omega)).symm
    | true =>
      have : V a ≠ 0 := by
        rcases h6 with h6 | h6
        · cases h6
        · exact h6
      exact (decide_eq_true (by rw [vz_t]; omega)).symm
  · show a = L (vz x a).natAbs
    rw [e]; exact h1
theorem gq_cq (h : Qs q) : gq (cz q.num).1 (cz q.num).2 (L q.den) = true := by
  have h1 := q.reduced
  have h2 := q.den_nz
  have h3 : q.num.natAbs.gcd q.den = 1 := h1
  simp only [gq, cz1, cz2, V_L, Bool.and_eq_true, decide_eq_true_eq, Bool.not_eq_true', Bool.and_eq_false_iff, decide_eq_false_iff_not, h.1, h.2, h3]
  refine ⟨⟨⟨⟨⟨⟨trivial, trivial⟩, h2⟩, trivial⟩, trivial⟩, ?_⟩, trivial⟩
  by_cases z : q.num < 0
  · right; omega
  · left; exact z
theorem gcd_one_cmp (n : Nat) : (cmpI n 1 == 0) = decide (n = 1) := by
  rcases cmpI_range n 1 with ⟨h, h'⟩ | ⟨h, h'⟩ | ⟨h, h'⟩ <;> rw [h]
  · rw [decide_eq_false (by omega)]; rfl
  · rw [decide_eq_true (by omega)]; rfl
  · rw [decide_eq_false (by omega)]; rfl
theorem canon_gt {l : List Int} {n : Nat} (e : l = L (V l)) : (l.length : Int) > n ↔ ¬ V l < Bp n := by
  have := @len_gt (V l) n
  rw [← e] at this
  exact this
theorem canon0 {l : List Int} (e : l = L (V l)) : (l.length : Int) = 0 ↔ V l = 0 := by
  have := @len0 (V l)
  rw [← e] at this
  exact this
theorem qGood_ev (sa : S m a) (sb : S m b) (hm : m ≤ 800000) : Ev (fun k => rat_Good.f k x a b) (gq x a b) := by
  have jt : Ev (fun k => rat_Good.j0 k a b true) false := Ev.succ (by simp only [rat_Good.j0]; exact Ev.ifp trivial (Ev.now _))
  have jf : Ev (fun k => rat_Good.j0 k a b false) (decide (Nat.gcd (V a) (V b) = 1)) := Ev.succ (by
    simp only [rat_Good.j0]
    refine Ev.ifn (by decide) (Ev.bind (Gcd_to sa sb hm rfl) (Ev.bind (Of_to (by omega) (by omega) (n := 1) rfl) ?_))
    have hg : Nat.gcd (V a) (V b) < Bp m ∨ V a = 0 ∧ V b = 0 := by
      by_cases z : V b = 0
      · by_cases z' : V a = 0
        · exact .inr ⟨z', z⟩
        · left; rw [z, Nat.gcd_zero_right]; exact sa.v
      · left; exact Nat.lt_of_le_of_lt (Nat.le_of_dvd (by omega) (Nat.gcd_dvd_right _ _)) sb.v
    have sg : S (m + 1) (L (Nat.gcd (V a) (V b))) := by
      rcases hg with hg | ⟨e1, e2⟩
      · exact S_L (lt_up hg (by omega))
      · rw [e1, e2]; exact S_L Bp_pos
    refine Ev.bind (Cmp_to sg (S_L (one_lt_Bp (by omega))) (by omega) rfl) (Ev.const ?_)
    rw [V_L, V_L, gcd_one_cmp])
  unfold rat_Good.f
  rw [trimmed_to sa (by omega), trimmed_to sb (by omega)]
  simp only [Option.bind_some]
  unfold gq
  by_cases h1 : a = L (V a)
  · rw [decide_eq_true h1]
    refine Ev.ifp rfl ?_
    by_cases h2 : b = L (V b)
    · rw [decide_eq_true h2]
      refine Ev.ifp rfl ?_
      by_cases h3 : V b = 0
      · rw [decide_eq_false (show ¬ V b ≠ 0 by omega)]
        exact Ev.ifp ((canon0 h2).2 h3) (by simpa using jt)
      · rw [decide_eq_true (show V b ≠ 0 from h3)]
        refine Ev.ifn (fun e => h3 ((canon0 h2).1 e)) ?_
        by_cases h5 : V b < Bp 64
        · refine Ev.ifn (fun e => (canon_gt h2).1 e h5) ?_
          by_cases h4 : V a < Bp 64
          · refine Ev.ifn (fun e => (canon_gt h1).1 e h4) ?_
            rw [decide_eq_true h4, decide_eq_true h5]
            cases x with
            | false => exact Ev.ifn (by decide) (by simpa using jf)
            | true =>
              refine Ev.ifp rfl ?_
              have e : ((a.length : Int) == 0) = decide (V a = 0) := by
                rw [Bool.eq_iff_iff, beq_iff_eq, decide_eq_true_eq]; exact canon0 h1
              rw [e]
              by_cases h6 : V a = 0
              · rw [decide_eq_true h6]; simpa using jt
              · rw [decide_eq_false h6]; simpa using jf
          · rw [decide_eq_false h4]
            exact Ev.ifp ((canon_gt h1).2 h4) (by simpa using jt)
        · rw [decide_eq_false h5]
          exact Ev.ifp ((canon_gt h2).2 h5) (by simpa using jt)
    · rw [decide_eq_false h2]
      exact Ev.ifn (by decide) (by simpa using jt)
  · rw [decide_eq_false h1]
    exact Ev.ifn (by decide) (by simpa using jt)
theorem Qs_a (h : Qs q) : S 64 (cz q.num).2 := S_cz h.1
theorem Qs_b (h : Qs q) : S 64 (L q.den) := S_L h.2
theorem qGood_yes (h : Qs q) : Ev (fun k => rat_Good.f k (cz q.num).1 (cz q.num).2 (L q.den)) true := Ev.eq (qGood_ev (Qs_a h) (Qs_b h) (by omega)) (gq_cq h)
end Go.Proofs.YtjgmmaeafodpmaaGreatDoor.Lib
set_option linter.unusedVariables false
set_option linter.unusedSimpArgs false
namespace Go.Proofs.YtjgmmaeafodpmaaGreatDoor.Lib
open Go.RowKit Go.Proofs.YtjgmmaeafodpmaaGreatDoorW.PrintWords Go.Proofs.YtjgmmaeafodpmaaGreatDoorW.PrintMore Go.Proofs.YtjgmmaeafodpmaaGreatDoor.P
variable {m p : Nat} {a b c d l : List Int} {x y : Bool} {q r : Rat}
theorem keepRat_to (sa : S m a) (sb : S m b) (hm : m ≤ 1000000) (h : (x, a, b) = (y, c, d)) : Ev (fun k => steelyardkeep_Rat.f k x a b y c d) true := by
  have h1 := Prod.mk.inj h
  have h2 := Prod.mk.inj h1.2
  rw [← h1.1, ← h2.1, ← h2.2]
  unfold steelyardkeep_Rat.f
  exact Ev.bind (keepInt_to sa hm rfl) (Ev.ifp rfl (Ev.bind (keep_to sb hm rfl) (Ev.now _)))
theorem keepQ_to (h : Qs q) (e : q = r) : Ev (fun k => steelyardkeep_Rat.f k (cz q.num).1 (cz q.num).2 (L q.den) (cz r.num).1 (cz r.num).2 (L r.den)) true := by
  subst e; exact keepRat_to (Qs_a h) (Qs_b h) (by omega) rfl
theorem rtrimmed_to (s : S m l) (hm : m ≤ 1000000) : steelyardref07_trimmed.f l = some (decide (l = L (V l))) := by
  unfold steelyardref07_trimmed.f
  by_cases h0 : l.length = 0
  · obtain rfl := List.eq_nil_of_length_eq_zero h0
    rw [if_pos (by decide), V_nil, L_zero]; rfl
  · have hl := s.2
    rw [if_neg (by omega), w64_pred (by omega) (by omega), if_pos (by omega), if_pos (by omega), rd_nat]
    have := last_zero s.1 h0
    by_cases e : l = L (V l)
    · rw [decide_eq_true e]
      have : l.getD (l.length - 1) 0 ≠ 0 := fun z => this.1 z e
      rw [bne_iff_ne.2 this]
    · rw [decide_eq_false e]
      have := this.2 e
      rw [this]; rfl
theorem one_limb (n : Nat) (h1 : ((L n).length : Int) = 1) : (rd (L n) 0 == 1) = decide (n = 1) := by
  have hn : n ≠ 0 := fun e => by rw [e, L_zero] at h1; simp at h1
  have hb : n < 4294967296 := by
    have h : (L n).length ≤ 1 := by omega
    have := lt_of_len h
    simpa using this
  have e0 : rd (L n) 0 = (L n).getD 0 0 := rd_nat _ 0
  rw [e0, L_one hn hb, Bool.eq_iff_iff, beq_iff_eq, decide_eq_true_eq]
  simp
  omega
theorem gcd_one_len {n : Nat} (h : ¬ ((L n).length : Int) = 1) : ¬ n = 1 := fun e => h (by rw [e, L_one (by omega) (by omega)]; rfl)
theorem rGood_ev (sa : S m a) (sb : S m b) (hm : m ≤ 100000) : Ev (fun k => steelyardref07_Good.f k x a b) (gq x a b) := by
  have hg : V b ≠ 0 → Ev (fun k => (steelyardref03_Gcd.f k a b).bind fun t => if (t.length : Int) = 1 then (if 0 < (t.length : Int) then some (rd t 0 == 1) else none) else some false) (decide (Nat.gcd (V a) (V b) = 1)) := fun h3 => by
    refine Ev.bind (rGcd_to sa sb hm rfl) ?_
    by_cases h : ((L (Nat.gcd (V a) (V b))).length : Int) = 1
    · exact Ev.ifp h (Ev.ifp (by omega) (Ev.const (by rw [one_limb _ h])))
    · exact Ev.ifn h (Ev.const (by rw [decide_eq_false (gcd_one_len h)]))
  unfold steelyardref07_Good.f
  rw [rtrimmed_to sa (by omega), rtrimmed_to sb (by omega)]
  simp only [Option.bind_some]
  unfold gq
  by_cases h1 : a = L (V a)
  · rw [decide_eq_true h1]
    refine Ev.ifp rfl ?_
    by_cases h2 : b = L (V b)
    · rw [decide_eq_true h2]
      refine Ev.ifp rfl ?_
      by_cases h3 : V b = 0
      · rw [decide_eq_false (show ¬ V b ≠ 0 by omega)]
        exact Ev.ifp ((canon0 h2).2 h3) (by simpa using Ev.now false)
      · rw [decide_eq_true (show V b ≠ 0 from h3)]
        refine Ev.ifn (fun e => h3 ((canon0 h2).1 e)) ?_
        have tail : Ev (fun k => if (a.length : Int) > 64 then some false else if (b.length : Int) > 64 then some false else (steelyardref03_Gcd.f k a b).bind fun t => if (t.length : Int) = 1 then (if 0 < (t.length : Int) then some (rd t 0 == 1) else none) else some false) (decide (V a < Bp 64) && decide (V b < Bp 64) && decide (Nat.gcd (V a) (V b) = 1)) := by
          by_cases h4 : V a < Bp 64
          · refine Ev.ifn (fun e => (canon_gt h1).1 e h4) ?_
            by_cases h5 : V b < Bp 64
            · refine Ev.ifn (fun e => (canon_gt h2).1 e h5) ?_
              rw [decide_eq_true h4, decide_eq_true h5]
              simpa using hg h3
            · rw [decide_eq_false h5]
              exact Ev.ifp ((canon_gt h2).2 h5) (by simpa using Ev.now false)
          · rw [decide_eq_false h4]
            exact Ev.ifp ((canon_gt h1).2 h4) (by simpa using Ev.now false)
        cases x with
        | false => exact Ev.ifn (by decide) (by simpa using tail)
        | true =>
          refine Ev.ifp rfl ?_
          by_cases h6 : V a = 0
          · exact Ev.ifp ((canon0 h1).2 h6) (by rw [decide_eq_true h6]; simpa using Ev.now false)
          · refine Ev.ifn (fun e => h6 ((canon0 h1).1 e)) ?_
            rw [decide_eq_false h6]
            simpa using tail
    · rw [decide_eq_false h2]
      exact Ev.ifn (by decide) (by simpa using Ev.now false)
  · rw [decide_eq_false h1]
    exact Ev.ifn (by decide) (by simpa using Ev.now false)
theorem rGood_yes (h : Qs q) : Ev (fun k => steelyardref07_Good.f k (cz q.num).1 (cz q.num).2 (L q.den)) true := Ev.eq (rGood_ev (Qs_a h) (Qs_b h) (by omega)) (gq_cq h)
theorem vz_sign {z : Int} {n : Nat} (h : n ≠ 0) (hq : mkRat z n = q) : vz (decide (z < 0)) (L q.num.natAbs) = q.num := by
  rw [vz_if, mk_neg h, hq]
  by_cases c : q.num < 0
  · rw [decide_eq_true c]; simp; omega
  · rw [decide_eq_false c]; simp; omega
theorem rWide_to (sa : S m a) (sb : S m b) (hm : m ≤ 100000) (h0 : V b ≠ 0) (hq : mkRat (vz x a) (V b) = q) : Ev (fun k => steelyardref07_Wide.f k x a b) ((cz q.num).1, (cz q.num).2, L q.den) := by
  unfold steelyardref07_Wide.f
  have sz : S m (cz (vz x a)).2 := S_cz (S_vz x sa)
  have ez : V (cz (vz x a)).2 = (vz x a).natAbs := by rw [cz2, V_L]
  have sg : S m (L (Nat.gcd (vz x a).natAbs (V b))) := S_L (gcd_lt h0 sb.v)
  have g0 : V (L (Nat.gcd (vz x a).natAbs (V b))) ≠ 0 := by rw [V_L]; exact gcd_ne h0
  have hn : q.num.natAbs < Bp m := by rw [← hq, mk_num h0]; exact Nat.lt_of_le_of_lt (Nat.div_le_self _ _) (S_vz x sa)
  refine Ev.bind (rZTrim_to sa (by omega) rfl) (Ev.bind (rGcd_to sz sb hm (n := Nat.gcd (vz x a).natAbs (V b)) (by rw [ez])) ?_)
  refine Ev.bind (rRem_to sz sg hm hm g0 (q := q.num.natAbs) (by rw [ez, V_L, ← hq, mk_num h0]) rfl) ?_
  refine Ev.bind (rMake_to (S_L hn) (by omega) (z := q.num) (by rw [cz1]; exact vz_sign h0 hq)) ?_
  refine Ev.bind (rRem_to sb sg hm hm g0 (q := q.den) (by rw [V_L, ← hq, mk_den h0]) rfl) (Ev.now _)
theorem rLimit_to (q : Rat) : steelyardref07_Limit.f (cz q.num).1 (cz q.num).2 (L q.den) = some (qr q) := by
  unfold steelyardref07_Limit.f
  rw [cz2]
  by_cases h1 : q.num.natAbs < Bp 64
  · rw [if_neg (show ¬ ((L q.num.natAbs).length : Int) > 64 from fun e => len_gt.1 e h1)]
    by_cases h2 : q.den < Bp 64
    · rw [if_neg (show ¬ ((L q.den).length : Int) > 64 from fun e => len_gt.1 e h2), qr_yes ⟨h1, h2⟩]; rfl
    · rw [if_pos (show ((L q.den).length : Int) > 64 from len_gt.2 h2), qr_no (fun e => h2 e.2)]
  · rw [if_pos (show ((L q.num.natAbs).length : Int) > 64 from len_gt.2 h1), qr_no (fun e => h1 e.1)]
theorem bl0 {n : Nat} : ((bl n : Nat) : Int) = 0 ↔ n = 0 := by
  constructor
  · intro h
    by_cases z : n = 0
    · exact z
    · have := bl_pos z; omega
  · intro h; rw [h]; rfl
theorem rqOf_to (sa : S m a) (sb : S m b) (hm : m ≤ 100000) (h0 : V b ≠ 0) (hq : mkRat (vz x a) (V b) = q) : Ev (fun k => steelyardref07_Of.f k x a b) (qr q) := by
  unfold steelyardref07_Of.f
  refine Ev.bind (rBits_to sb (by omega) rfl) (Ev.ifn (fun e => h0 (bl0.1 e)) (Ev.bind (rWide_to sa sb hm h0 hq) ?_))
  rw [rLimit_to]
  exact Ev.now _
theorem rWhole_to {v : Int} (h0 : -9223372036854775808 ≤ v) (h1 : v ≤ 9223372036854775807) : Ev (fun k => steelyardref07_Whole.f k v) ((cz v).1, (cz v).2, L 1) := by
  unfold steelyardref07_Whole.f
  exact Ev.bind (rZOf_to h0 h1) (Ev.const (by rw [L_one (by omega) (by omega)]; rfl))
theorem rTimes_to (sa : S m a) (sb : S m b) (sc : S p c) (sd : S p d) (hm : m + p < 90000) (h0 : V b ≠ 0) (h1 : V d ≠ 0) (hq : mkRat (vz x a * vz y c) (V b * V d) = q) :
    Ev (fun k => steelyardref07_Times.f k x a b y c d) ((cz q.num).1, (cz q.num).2, L q.den) := by
  unfold steelyardref07_Times.f
  have b1 : (vz x a * vz y c).natAbs < Bp (m + p) := na_mul (S_vz x sa) (S_vz y sc) (Nat.le_refl _)
  have b2 : V b * V d < Bp (m + p) := lt_mul sb.v sd.v (Nat.le_refl _)
  refine Ev.bind (rZMul_to sa sc (by omega) rfl) (Ev.bind (rMul_to sb sd (by omega) rfl) (Ev.bind (rWide_to (m := m + p) (S_cz b1) (S_L b2) (by omega) (by rw [V_L]; exact Nat.mul_ne_zero h0 h1) (by rw [vz_cz, V_L]; exact hq)) (Ev.now _)))
theorem num_int (z : Int) : ((z : Int) : Rat).num = z := rfl
theorem den_int (z : Int) : ((z : Int) : Rat).den = 1 := rfl
theorem Qs_int {z : Int} (h : z.natAbs < 18446744073709551616) : Qs (z : Rat) := ⟨lt_num h (by omega), one_lt_Bp (by omega)⟩
theorem By_to {u : Int} {n : Nat} (h0 : -9223372036854775808 ≤ u) (h1 : u ≤ 9223372036854775807) (hn : 0 < n) (h2 : n ≤ 9223372036854775807) (hq : mkRat u n = q) (hs : Qs q) :
    Ev (fun k => steelyardlaw07_By.f k u n) ((cz q.num).1, (cz q.num).2, L q.den) := by
  unfold steelyardlaw07_By.f
  refine Ev.bind (rWhole_to h0 h1) (Ev.bind (rWhole_to (v := (n : Int)) (by omega) (by omega)) ?_)
  have g1 : Ev (fun k => steelyardref07_Good.f k (cz u).1 (cz u).2 (L 1)) true := rGood_yes (q := (u : Rat)) (Qs_int (by omega))
  have g2 : Ev (fun k => steelyardref07_Good.f k (cz (n : Int)).1 (cz (n : Int)).2 (L 1)) true := rGood_yes (q := ((n : Int) : Rat)) (Qs_int (by omega))
  have s1 : S 2 (L 1) := S_L (one_lt_Bp (by omega))
  have su : S 2 (cz u).2 := S_cz (lt_num (by omega) (by omega))
  have sn : S 2 (cz (n : Int)).2 := S_cz (lt_num (by omega) (by omega))
  have hD : Ev (fun k => steelyardref07_Div.f k (cz u).1 (cz u).2 (L 1) (cz (n : Int)).1 (cz (n : Int)).2 (L 1)) (qr q) := by
    unfold steelyardref07_Div.f
    refine Ev.bind g1 (Ev.ifp rfl (Ev.bind g2 (Ev.succ ?_)))
    simp only [steelyardref07_Div.j0]
    refine Ev.ifn (by decide) (Ev.ifn (by rw [cz2, len0]; omega) ?_)
    have e1 : (cz (n : Int)).1 = false := by rw [cz1]; exact decide_eq_false (by omega)
    refine Ev.bind (rMake_to s1 (by omega) (z := 1) (by rw [e1, vz_f, V_L]; rfl)) ?_
    refine Ev.bind (rTimes_to su s1 (S_cz (z := 1) (one_lt_Bp (m := 2) (by omega))) sn (by omega) (by rw [V_L]; omega) (by rw [cz2, V_L]; omega) (q := q) (by rw [vz_cz, vz_cz, V_L, cz2, V_L, Int.mul_one, Nat.one_mul, Int.natAbs_natCast]; exact hq)) ?_
    rw [rLimit_to]
    exact Ev.now _
  refine Ev.bind hD (Ev.const ?_)
  rw [qr_yes hs]
theorem cross_to (h : Qs q) (k : Qs r) : Ev (fun n => rat_cross.f n (cz q.num).1 (cz q.num).2 (L q.den) (cz r.num).1 (cz r.num).2 (L r.den)) (cz (q.num * r.den)) := by
  unfold rat_cross.f
  exact Ev.bind (wMul_to (Qs_a h) (Qs_b k) (by omega) (z := q.num * r.den) (by rw [vz_cz, vz_f, V_L])) (Ev.now _)
theorem na_cross (h : Qs q) (k : Qs r) : (q.num * (r.den : Int)).natAbs < Bp 128 := na_mul h.1 (w := (r.den : Int)) (p := 64) (by rw [Int.natAbs_natCast]; exact k.2) (by omega)
end Go.Proofs.YtjgmmaeafodpmaaGreatDoor.Lib
set_option linter.unusedVariables false
set_option linter.unusedSimpArgs false
namespace Go.Proofs.YtjgmmaeafodpmaaGreatDoor.Lib
open Go.RowKit Go.Proofs.YtjgmmaeafodpmaaGreatDoorW.PrintWords Go.Proofs.YtjgmmaeafodpmaaGreatDoorW.PrintMore
def dg (x : Int) : Bool := decide (48 ≤ x) && decide (x ≤ 57)
def rn : List Int → Nat
  | [] => 0
  | x :: l => if dg x then rn l + 1 else 0
def pl (l : List Int) : Nat := if l.getD 0 0 = 46 ∧ 0 < rn (l.drop 1) then 1 + rn (l.drop 1) else 0
def ex (l : List Int) : Nat :=
  if l.getD 0 0 = 101 then
    (if (l.drop 1).getD 0 0 = 45 then (if rn (l.drop 2) = 0 then 0 else min (rn (l.drop 2)) 3 + 2) else (if rn (l.drop 1) = 0 then 0 else min (rn (l.drop 1)) 3 + 1))
  else 0
def ln (l : List Int) : Nat := if rn l = 0 then 0 else rn l + pl (l.drop (rn l)) + ex (l.drop (rn l + pl (l.drop (rn l))))
def good (l : List Int) : Bool := decide (l ≠ []) && decide (l.length ≤ 400) && decide (ln l = l.length)
structure LitP (l A B E : List Int) (sg : Bool) : Prop where
  ha : Dg A
  ha0 : A ≠ []
  hb : Dg B
  he : Dg E
  hel : E.length ≤ 3
  hs : E = [] → sg = false
  eq : l = A ++ ((if B = [] then [] else 46 :: B) ++ (if E = [] then [] else 101 :: (if sg = true then 45 :: E else E)))
def Stops (T : List Int) : Prop := dg (T.getD 0 0) = false ∧ T.getD 0 0 ≠ 46 ∧ T.getD 0 0 ≠ 101
def tenq (n : Nat) (k : Int) : Rat := if k < 0 then mkRat n (10 ^ (-k).toNat) else mkRat ((n * 10 ^ k.toNat : Nat) : Int) 1
def ek (sg : Bool) (E B : List Int) : Int := (if sg = true then -(pv E : Int) else (pv E : Int)) - B.length
end Go.Proofs.YtjgmmaeafodpmaaGreatDoor.Lib
set_option linter.unusedVariables false
set_option linter.unusedSimpArgs false
namespace Go.Proofs.YtjgmmaeafodpmaaGreatDoor.Lib
open Go.RowKit Go.Proofs.YtjgmmaeafodpmaaGreatDoorW.PrintWords Go.Proofs.YtjgmmaeafodpmaaGreatDoorW.PrintMore
theorem ns_mk (l : List UInt8) : ns (⟨l.toArray⟩ : ByteArray) = l.map fun b => (b.toNat : Int) := rfl
theorem size_ns {s : ByteArray} {l : List Int} (h : ns s = l) : s.size = l.length := by rw [ns_size, h]
theorem ten_ne (j : Nat) : 10 ^ j ≠ 0 := Nat.pos_iff_ne_zero.1 (Nat.pow_pos (by omega))
theorem Qs_mk {z : Int} {n : Nat} (h0 : n ≠ 0) (h : z.natAbs < Bp 64) (h1 : n < Bp 64) : Qs (mkRat z n) := by
  refine ⟨?_, ?_⟩
  · rw [mk_num h0]; exact Nat.lt_of_le_of_lt (Nat.div_le_self _ _) h
  · rw [mk_den h0]; exact Nat.lt_of_le_of_lt (Nat.div_le_self _ _) h1
theorem mk_div (z : Int) (n : Nat) : mkRat z n = (z : Rat) / (n : Rat) := by rw [← Rat.divInt_ofNat, Rat.divInt_eq_div]; rfl
end Go.Proofs.YtjgmmaeafodpmaaGreatDoor.Lib
set_option linter.unusedVariables false
set_option linter.unusedSimpArgs false
namespace Go.Proofs.YtjgmmaeafodpmaaGreatDoor.Lib
open Go.RowKit Go.Proofs.YtjgmmaeafodpmaaGreatDoorW.PrintWords Go.Proofs.YtjgmmaeafodpmaaGreatDoorW.PrintMore Go.Proofs.YtjgmmaeafodpmaaGreatDoor.P
def fi (c : Int) (l : List Int) : Nat := l.findIdx (fun x => decide (x = c))
end Go.Proofs.YtjgmmaeafodpmaaGreatDoor.Lib
set_option linter.unusedVariables false
set_option linter.unusedSimpArgs false
namespace Go.Proofs.YtjgmmaeafodpmaaGreatDoor.Lib
open Go.RowKit Go.Proofs.YtjgmmaeafodpmaaGreatDoorW.PrintWords Go.Proofs.YtjgmmaeafodpmaaGreatDoorW.PrintMore Go.Proofs.YtjgmmaeafodpmaaGreatDoor.P
variable {m p : Nat} {a b c d l : List Int} {x y : Bool} {q r : Rat}
def cmpQ (q r : Rat) : Int := cmpZ (q.num * r.den) (r.num * q.den)
theorem cmpQ_cases (q r : Rat) : (q < r ∧ cmpQ q r = -1) ∨ (q = r ∧ cmpQ q r = 0) ∨ (r < q ∧ cmpQ q r = 1) := by
  unfold cmpQ
  rcases cmpZ_cases (q.num * r.den) (r.num * q.den) with ⟨h, e⟩ | ⟨h, e⟩ | ⟨h, e⟩
  · exact .inl ⟨(Rat.lt_iff q r).2 h, e⟩
  · exact .inr (.inl ⟨Rat.eq_iff_mul_eq_mul.2 h, e⟩)
  · exact .inr (.inr ⟨(Rat.lt_iff r q).2 h, e⟩)
theorem cmpQ_le (h : q ≤ r) : cmpQ q r ≤ 0 := by
  rcases cmpQ_cases q r with ⟨_, e⟩ | ⟨_, e⟩ | ⟨h', e⟩
  · omega
  · omega
  · exact absurd h (Rat.not_le.2 h')
theorem cmpQ_ge (h : r ≤ q) : 0 ≤ cmpQ q r := by
  rcases cmpQ_cases q r with ⟨h', e⟩ | ⟨_, e⟩ | ⟨_, e⟩
  · exact absurd h (Rat.not_le.2 h')
  · omega
  · omega
theorem cmpQ_eq (q : Rat) : cmpQ q q = 0 := cmpZ_eq _
theorem qCmp_to (h : Qs q) (k : Qs r) : Ev (fun n => rat_Cmp.f n (cz q.num).1 (cz q.num).2 (L q.den) (cz r.num).1 (cz r.num).2 (L r.den)) (cmpQ q r) := by
  unfold rat_Cmp.f
  refine Ev.bind (qGood_yes h) (Ev.ifp rfl (Ev.bind (qGood_yes k) (Ev.succ ?_)))
  simp only [rat_Cmp.j0]
  refine Ev.ifn (by decide) (Ev.bind (cross_to h k) (Ev.bind (cross_to k h) ?_))
  exact Ev.bind (wCmp_to (S_cz (na_cross h k)) (S_cz (na_cross k h)) (by omega) (c := cmpQ q r) (by rw [vz_cz, vz_cz]; rfl)) (Ev.now _)
theorem cmpQ_0 (q : Rat) : cmpQ q 0 = cmpZ q.num 0 := by
  unfold cmpQ
  rw [show (0 : Rat).num = 0 from rfl, show (0 : Rat).den = 1 from rfl, Int.zero_mul]
  simp
theorem qSign_to (h : Qs q) : Ev (fun n => rat_Sign.f n (cz q.num).1 (cz q.num).2 (L q.den)) (cmpQ q 0) := by
  unfold rat_Sign.f
  refine Ev.bind (qGood_yes h) (Ev.ifp rfl (Ev.bind (wCmp_to (Qs_a h) (S_nil (m := 64)) (by omega) (c := cmpQ q 0) (by rw [vz_cz, vz_f, V_nil, cmpQ_0]; rfl)) (Ev.now _)))
theorem cpy_all (l : List Int) : cpy (List.replicate l.length 0) 0 l = l := by rw [cpy_take _ _ (Nat.le_refl _), List.take_length]
theorem pos_to (s : S m l) (hm : m ≤ 1000000) : Ev (fun k => steelyardref07_pos.f k l) (cz ((V l : Nat) : Int)) := by
  unfold steelyardref07_pos.f
  exact Ev.bind (rMake_to s hm (z := ((V l : Nat) : Int)) (vz_f _)) (Ev.now _)
theorem rLess_to (sa : S m a) (sb : S m b) (sc : S p c) (sd : S p d) (hm : m + p < 90000) : Ev (fun k => steelyardref07_Less.f k x a b y c d) (cmpZ (vz x a * (V d : Int)) (vz y c * (V b : Int))) := by
  unfold steelyardref07_Less.f
  have z1 : (((V d : Nat) : Int)).natAbs < Bp p := by rw [Int.natAbs_natCast]; exact sd.v
  have z2 : (((V b : Nat) : Int)).natAbs < Bp m := by rw [Int.natAbs_natCast]; exact sb.v
  have b1 : (vz x a * (V d : Int)).natAbs < Bp (m + p) := na_mul (S_vz x sa) z1 (Nat.le_refl _)
  have b2 : (vz y c * (V b : Int)).natAbs < Bp (m + p) := na_mul (S_vz y sc) z2 (by omega)
  refine Ev.bind (pos_to sd (by omega)) (Ev.bind (rZMul_to sa (S_cz z1) (by omega) (z := vz x a * (V d : Int)) (by rw [vz_cz])) ?_)
  refine Ev.bind (pos_to sb (by omega)) (Ev.bind (rZMul_to sc (S_cz z2) (by omega) (z := vz y c * (V b : Int)) (by rw [vz_cz])) ?_)
  exact Ev.bind (rZCmp_to (S_cz b1) (S_cz b2) (by omega) (by rw [vz_cz, vz_cz])) (Ev.now _)
def Qm (m : Nat) (q : Rat) : Prop := q.num.natAbs < Bp m ∧ q.den < Bp m
theorem Qm_a (h : Qm m q) : S m (cz q.num).2 := S_cz h.1
theorem Qm_b (h : Qm m q) : S m (L q.den) := S_L h.2
theorem Qs_m (h : Qs q) : Qm 64 q := h
theorem rTimesQ_to (h : Qm m q) (k : Qm p r) (hm : m + p < 90000) {s : Rat} (e : q * r = s) : Ev (fun n => steelyardref07_Times.f n (cz q.num).1 (cz q.num).2 (L q.den) (cz r.num).1 (cz r.num).2 (L r.den)) ((cz s.num).1, (cz s.num).2, L s.den) :=
  rTimes_to (Qm_a h) (Qm_b h) (Qm_a k) (Qm_b k) hm (by rw [V_L]; exact q.den_nz) (by rw [V_L]; exact r.den_nz) (by rw [vz_cz, vz_cz, V_L, V_L, ← e, Rat.mul_def'])
theorem rLessQ_to (h : Qm m q) (k : Qm p r) (hm : m + p < 90000) : Ev (fun n => steelyardref07_Less.f n (cz q.num).1 (cz q.num).2 (L q.den) (cz r.num).1 (cz r.num).2 (L r.den)) (cmpQ q r) := by
  have := rLess_to (x := (cz q.num).1) (y := (cz r.num).1) (Qm_a h) (Qm_b h) (Qm_a k) (Qm_b k) hm
  rw [vz_cz, vz_cz, V_L, V_L] at this
  exact this
end Go.Proofs.YtjgmmaeafodpmaaGreatDoor.Lib
set_option linter.unusedVariables false
set_option linter.unusedSimpArgs false
namespace Go.Proofs.YtjgmmaeafodpmaaGreatDoor.Lib
open Go.RowKit Go.Proofs.YtjgmmaeafodpmaaGreatDoorW.PrintWords Go.Proofs.YtjgmmaeafodpmaaGreatDoorW.PrintMore Go.Proofs.YtjgmmaeafodpmaaGreatDoor.P
variable {m p : Nat} {a b c d l : List Int} {x y : Bool} {q r : Rat}
def fl (q : Rat) (p : Nat) : Int := q.num * (10 ^ p : Nat) / (q.den : Int)
def fr (q : Rat) (p : Nat) : Int := q.num * (10 ^ p : Nat) % (q.den : Int)
def ce (q : Rat) (p : Nat) : Int := if fr q p = 0 then fl q p else fl q p + 1
def side (q : Rat) (p : Nat) : Int := cmpZ (2 * fr q p) q.den
def nr (q : Rat) (p : Nat) : Int := if side q p > 0 ∨ (side q p = 0 ∧ (fl q p).natAbs.testBit 0 = true) then ce q p else fl q p
theorem split_nat (q : Rat) (p : Nat) {Q R : Nat} (hQ : q.num.natAbs * 10 ^ p / q.den = Q) (hR : q.num.natAbs * 10 ^ p % q.den = R) :
    R < q.den ∧ (0 ≤ q.num → fl q p = Q ∧ fr q p = R) ∧ (q.num < 0 → R = 0 → fl q p = -(Q : Int) ∧ fr q p = 0) ∧ (q.num < 0 → R ≠ 0 → fl q p = -(Q : Int) - 1 ∧ fr q p = q.den - R) := by
  have hd : 0 < q.den := Nat.pos_of_ne_zero q.den_nz
  have hR' : R < q.den := hR ▸ Nat.mod_lt _ hd
  have hdm := Nat.div_add_mod (q.num.natAbs * 10 ^ p) q.den
  rw [hQ, hR] at hdm
  have key : ((q.num.natAbs : Nat) : Int) * ((10 ^ p : Nat) : Int) = (q.den : Int) * Q + R := by
    rw [← Int.natCast_mul, ← hdm]; push_cast; rfl
  have uniq : ∀ u w : Int, q.num * ((10 ^ p : Nat) : Int) = u * q.den + w → 0 ≤ w → w < q.den → fl q p = u ∧ fr q p = w := fun u w h h0 h1 => by
    have e1 : q.num * ((10 ^ p : Nat) : Int) / (q.den : Int) = u := by
      rw [h, Int.add_comm, Int.add_mul_ediv_right _ _ (by omega), Int.ediv_eq_zero_of_lt h0 h1, Int.zero_add]
    have e2 : q.num * ((10 ^ p : Nat) : Int) % (q.den : Int) = w := by
      rw [h, Int.add_comm, Int.add_mul_emod_self_right, Int.emod_eq_of_lt h0 h1]
    exact ⟨e1, e2⟩
  refine ⟨hR', fun h => ?_, fun h h0 => ?_, fun h h0 => ?_⟩
  · refine uniq _ _ ?_ (by omega) (by omega)
    have e : ((q.num.natAbs : Nat) : Int) = q.num := by omega
    rw [e] at key
    rw [key, Int.mul_comm]
  · refine uniq _ _ ?_ (by omega) (by omega)
    have e : q.num = -((q.num.natAbs : Nat) : Int) := by omega
    rw [e, Int.neg_mul, key, h0, Int.neg_mul, Int.mul_comm (Q : Int)]
    omega
  · refine uniq _ _ ?_ (by omega) (by omega)
    have e : q.num = -((q.num.natAbs : Nat) : Int) := by omega
    rw [e, Int.neg_mul, key, Int.sub_mul, Int.neg_mul, Int.one_mul, Int.mul_comm (Q : Int)]
    omega
theorem Qs_top (h : Qs q) (hp : p ≤ 60) : q.num.natAbs * 10 ^ p < Bp 73 := lt_mul h.1 (ten_Bp (m := 8) (j := p) (by omega)) (by omega)
theorem fl_lt (h : Qs q) (hp : p ≤ 60) : (fl q p).natAbs < Bp 74 ∧ (ce q p).natAbs < Bp 75 := by
  obtain ⟨h1, h2, h3, h4⟩ := split_nat q p rfl rfl
  have hQ : q.num.natAbs * 10 ^ p / q.den < Bp 73 := Nat.lt_of_le_of_lt (Nat.div_le_self _ _) (Qs_top h hp)
  generalize q.num.natAbs * 10 ^ p / q.den = Q at *
  generalize q.num.natAbs * 10 ^ p % q.den = R at *
  have h1 : (1 : Int).natAbs < Bp 73 := one_lt_Bp (by omega)
  have hf : (fl q p).natAbs < Bp 74 := by
    have h72 : Bp 73 ≤ Bp 74 := Bp_le (by omega)
    generalize hB3 : Bp 73 = B3 at *
    generalize hB4 : Bp 74 = B4 at *
    by_cases c : 0 ≤ q.num
    · rw [(h2 c).1]; omega
    · by_cases c' : R = 0
      · rw [(h3 (by omega) c').1]; omega
      · rw [(h4 (by omega) c').1, ← hB4]
        exact na_add (m := 73) (by rw [Int.natAbs_neg, Int.natAbs_natCast, hB3]; exact hQ) (by rw [Int.natAbs_neg, hB3]; exact h1) (by omega)
  refine ⟨hf, ?_⟩
  unfold ce
  split
  · exact lt_up hf (by omega)
  · exact na_add hf (lt_up h1 (by omega)) (by omega)
theorem cmpI_Z (u v : Nat) : cmpI u v = cmpZ (u : Int) (v : Int) := by
  unfold cmpI cmpZ
  by_cases h : u < v
  · rw [if_pos h, if_pos (show (u : Int) < v by omega)]
  · rw [if_neg h, if_neg (show ¬ (u : Int) < v by omega)]
    by_cases h' : v < u
    · rw [if_pos h', if_pos (show (v : Int) < u by omega)]
    · rw [if_neg h', if_neg (show ¬ (v : Int) < u by omega)]
theorem dsplit_to (h : Qs q) (hp : p ≤ 60) : Ev (fun k => decimal_split.f k (cz q.num).1 (cz q.num).2 (L q.den) (p : Int)) ((cz (fl q p)).1, (cz (fl q p)).2, (cz (ce q p)).1, (cz (ce q p)).2, side q p, 0) := by
  obtain ⟨hR, h2, h3, h4⟩ := split_nat q p rfl rfl
  have ht := Qs_top h hp
  generalize hQe : q.num.natAbs * 10 ^ p / q.den = Q at *
  generalize hRe : q.num.natAbs * 10 ^ p % q.den = R at *
  have hQ : Q < Bp 73 := by rw [← hQe]; exact Nat.lt_of_le_of_lt (Nat.div_le_self _ _) ht
  have hRB : R < Bp 64 := Nat.lt_trans hR h.2
  unfold decimal_split.f
  refine Ev.bind (qGood_yes h) (Ev.ifp rfl (Ev.ifn (by omega) ?_))
  rw [decide_eq_false (by omega)]
  refine Ev.succ ?_
  simp only [decimal_split.j0]
  refine Ev.ifn (by decide) (Ev.bind (Ten_to (by omega)) ?_)
  refine Ev.bind (Mul_to (Qs_a h) (S_L (ten_Bp (m := 8) (j := p) (by omega))) (by omega) (n := q.num.natAbs * 10 ^ p) (by rw [cz2, V_L, V_L])) ?_
  refine Ev.bind (Rem_to (S_L ht) (Qs_b h) (by omega) (by omega) (by rw [V_L]; exact q.den_nz) (q := Q) (r := R) (by rw [V_L, V_L]; exact hQe) (by rw [V_L, V_L]; exact hRe)) ?_
  refine Ev.bind (Add_to (S_L hRB) (S_L hRB) (by omega) (n := R + R) (by rw [V_L])) ?_
  refine Ev.bind (Cmp_to (m := 65) (S_L (lt_add hRB hRB (by omega))) (S_L (lt_up h.2 (by omega))) (by omega) (c := cmpZ ((R + R : Nat) : Int) q.den) (by rw [V_L, V_L, cmpI_Z])) ?_
  refine Ev.bind (wTrim_to (S_L hQ) (by omega) (z := if q.num < 0 then -(Q : Int) else Q) (by rw [cz1, vz_if]; simp only [decide_eq_true_eq])) ?_
  by_cases c0 : R = 0
  · have e : fl q p = (if q.num < 0 then -(Q : Int) else Q) ∧ fr q p = 0 := by
      by_cases c : q.num < 0
      · rw [if_pos c]; exact h3 c c0
      · rw [if_neg c]; have := h2 (by omega); rw [c0] at this; exact this
    refine Ev.ifp (by rw [len0]; exact c0) (Ev.const ?_)
    have e2 : ce q p = fl q p := by unfold ce; rw [if_pos e.2]
    rw [e2, e.1]
    unfold side
    rw [e.2, c0]; rfl
  · refine Ev.ifn (by rw [len0]; exact c0) ?_
    by_cases c : q.num < 0
    · obtain ⟨e1, e2⟩ := h4 c c0
      rw [if_pos c]
      refine Ev.ifp (by rw [cz1]; exact decide_eq_true c) (Ev.bind (wOf_to (v := -1) (by omega) (by omega)) ?_)
      refine Ev.bind (wAdd_to (m := 73) (S_cz (by rw [Int.natAbs_neg, Int.natAbs_natCast]; exact hQ)) (S_cz (z := -1) (by rw [Int.natAbs_neg]; exact one_lt_Bp (m := 73) (by omega))) (by omega) (z := fl q p) (by rw [vz_cz, vz_cz, e1]; omega)) (Ev.const ?_)
      have e3 : ce q p = -(Q : Int) := by unfold ce; rw [if_neg (by omega), e1]; omega
      rw [e3]
      have e4 : wrap64 (-(cmpZ ((R + R : Nat) : Int) q.den)) = side q p := by
        unfold side
        rw [e2]
        rcases cmpZ_cases ((R + R : Nat) : Int) q.den with ⟨h', e⟩ | ⟨h', e⟩ | ⟨h', e⟩
        · rw [e, cmpZ_gt (by omega), w64 (by omega) (by omega)]; rfl
        · rw [e, show 2 * ((q.den : Int) - R) = q.den by omega, cmpZ_eq, w64 (by omega) (by omega)]; rfl
        · rw [e, cmpZ_lt (by omega), w64 (by omega) (by omega)]
      rw [e4]
    · obtain ⟨e1, e2⟩ := h2 (by omega)
      rw [if_neg c]
      refine Ev.ifn (by rw [cz1, decide_eq_false c]; decide) (Ev.bind (wOf_to (v := 1) (by omega) (by omega)) ?_)
      refine Ev.bind (wAdd_to (m := 73) (S_cz (by rw [Int.natAbs_natCast]; exact hQ)) (S_cz (z := 1) (one_lt_Bp (m := 73) (by omega))) (by omega) (z := ce q p) (by rw [vz_cz, vz_cz]; unfold ce; rw [if_neg (by omega), e1])) (Ev.const ?_)
      unfold side
      rw [e1, e2, show ((R + R : Nat) : Int) = 2 * (R : Int) by omega]
def pad (z : Int) (p : Nat) : List Int := List.replicate (p + 1 - (tx z.natAbs).length) 48 ++ tx z.natAbs
def ptl (z : Int) (p : Nat) : List Int := (pad z p).take ((pad z p).length - p) ++ (if p = 0 then [] else 46 :: (pad z p).drop ((pad z p).length - p))
def pt (z : Int) (p : Nat) : List Int := if z < 0 then 45 :: ptl z p else ptl z p
theorem Dg_pad (z : Int) (p : Nat) : Dg (pad z p) := Dg_app.2 ⟨fun x hx => by obtain ⟨_, rfl⟩ := List.mem_replicate.1 hx; decide, Dg_tx _⟩
theorem pad_len (z : Int) (p : Nat) : (pad z p).length = max (p + 1) (tx z.natAbs).length := by unfold pad; rw [List.length_append, List.length_replicate]; omega
theorem B8_cons {x : Int} {l : List Int} (h : 0 ≤ x ∧ x < 256) (hl : B8 l) : B8 (x :: l) := fun y hy => by
  rcases List.mem_cons.1 hy with rfl | hy
  · exact h
  · exact hl y hy
theorem B8_app {l r : List Int} (h : B8 l) (k : B8 r) : B8 (l ++ r) := fun y hy => by
  rcases List.mem_append.1 hy with hy | hy
  · exact h y hy
  · exact k y hy
theorem B8_ptl (z : Int) (p : Nat) : B8 (ptl z p) := by
  unfold ptl
  refine B8_app (Dg_B8 (Dg_take (Dg_pad z p) _)) ?_
  split
  · exact fun y hy => by cases hy
  · exact B8_cons (by omega) (Dg_B8 (Dg_drop (Dg_pad z p) _))
theorem B8_pt (z : Int) (p : Nat) : B8 (pt z p) := by
  unfold pt
  split
  · exact B8_cons (by omega) (B8_ptl z p)
  · exact B8_ptl z p
def PT (z : Int) (p : Nat) : ByteArray := strOfNums (pt z p)
theorem ns_PT (z : Int) (p : Nat) : ns (PT z p) = pt z p := ns_strOf (B8_pt z p)
theorem repeat_0 (n : Nat) (h : n ≤ 1000000) : ∃ R, strings_Repeat.f (⟨#[48]⟩ : ByteArray) (n : Int) = some R ∧ ns R = List.replicate n 48 := by
  unfold strings_Repeat.f
  refine ⟨_, by rw [if_pos (by omega), if_pos (by omega), if_pos (by rw [Int.toNat_natCast]; show 1 * n ≤ _; omega)], ?_⟩
  rw [Int.toNat_natCast, ns_mk]
  have e : (⟨#[48]⟩ : ByteArray).data.toList = [48] := rfl
  rw [e]
  clear h
  induction n with
  | zero => rfl
  | succ n ih => rw [Go.Lib.repeatL, List.map_append, ih, List.replicate_succ]; rfl
theorem btes_ns (s : ByteArray) : btes s = ns s := rfl
theorem dtext_tail {z : Int} {s : ByteArray} (hs : ns s = pad z p) (hz : s.size ≤ 100000) (hp : p ≤ 1000) {w : Bool} (hw : w = decide (z < 0)) : Ev (fun k => decimal_text.j0 k (p : Int) s w l) (PT z p) := by
  have hl := pad_len z p
  have hsz : s.size = (pad z p).length := size_ns hs
  refine Ev.succ ?_
  simp only [decimal_text.j0, btes_ns, Option.bind_some, Int.toNat_natCast, List.length_replicate]
  rw [hs, w64 (by omega) (by omega), show ((s.size : Int) - (p : Int)) = ((s.size - p : Nat) : Int) by omega, Int.toNat_natCast, hsz]
  have e0 : cpy (List.replicate (pad z p).length 0) 0 (pad z p) = pad z p := cpy_all _
  rw [e0]
  have b1 : B8 ((pad z p).take ((pad z p).length - p)) := Dg_B8 (Dg_take (Dg_pad z p) _)
  have b2 : B8 ((pad z p).drop ((pad z p).length - p)) := Dg_B8 (Dg_drop (Dg_pad z p) _)
  have n1 := ns_strOf b1
  have n2 := ns_strOf b2
  have z1 := size_ns n1
  have z2 := size_ns n2
  rw [List.length_take] at z1
  rw [List.length_drop] at z2
  refine Ev.ifp (by omega) (Ev.ifp (by omega) (Ev.ifp (by omega) (Ev.ifp (by omega) ?_)))
  by_cases c : p = 0
  · have hf : strOfNums ((pad z p).take ((pad z p).length - p)) = strOfNums (ptl z p) := by congr 1; unfold ptl; rw [if_pos c, List.append_nil]
    refine Ev.ifn (by omega) ?_
    rw [hf] at z1 ⊢
    subst hw
    by_cases cz' : z < 0
    · rw [decide_eq_true cz']
      refine Ev.ifp rfl (Ev.ifp (by omega) (Ev.const ?_))
      congr 1
      refine ns_inj ?_
      rw [ns_PT, ns_append, ns_strOf (B8_ptl z p)]; unfold pt; rw [if_pos cz']; rfl
    · rw [decide_eq_false cz']
      refine Ev.ifn (by decide) (Ev.const ?_)
      congr 1
      unfold PT pt; rw [if_neg cz']
  · have sd : ((⟨#[46]⟩ : ByteArray) ++ strOfNums ((pad z p).drop ((pad z p).length - p))).size = 1 + (strOfNums ((pad z p).drop ((pad z p).length - p))).size := by rw [ByteArray.size_append]; rfl
    have hf : strOfNums ((pad z p).take ((pad z p).length - p)) ++ ((⟨#[46]⟩ : ByteArray) ++ strOfNums ((pad z p).drop ((pad z p).length - p))) = strOfNums (ptl z p) := by
      refine ns_inj ?_
      rw [ns_append, ns_append, n1, n2, ns_strOf (B8_ptl z p)]; unfold ptl; rw [if_neg c]; rfl
    have zf := congrArg ByteArray.size hf
    rw [ByteArray.size_append, sd] at zf
    refine Ev.ifp (by omega) (Ev.ifp (by omega) (Ev.ifp (by omega) ?_))
    rw [hf]
    subst hw
    by_cases cz' : z < 0
    · rw [decide_eq_true cz']
      refine Ev.ifp rfl (Ev.ifp (by omega) (Ev.const ?_))
      congr 1
      refine ns_inj ?_
      rw [ns_PT, ns_append, ns_strOf (B8_ptl z p)]; unfold pt; rw [if_pos cz']; rfl
    · rw [decide_eq_false cz']
      refine Ev.ifn (by decide) (Ev.const ?_)
      congr 1
      unfold PT pt; rw [if_neg cz']
theorem tx_small {n m : Nat} (h : n < Bp m) (hm : m ≤ 3000) : (tx n).length ≤ 100000 := by
  have := T_size h hm
  rw [size_ns (ns_T n)] at this
  exact this
theorem Bp_ten (m : Nat) : Bp m ≤ 10 ^ (10 * m) := by rw [Nat.pow_mul]; exact Nat.pow_le_pow_left (by decide) m
theorem dtext_to {z : Int} (hz : z.natAbs < Bp m) (hm : m ≤ 1000) (hp : p ≤ 1000) : Ev (fun k => decimal_text.f k (cz z).1 (cz z).2 (p : Int)) (PT z p) := by
  have hl := tx_small hz (by omega)
  have h30 : (tx z.natAbs).length ≤ 90000 := by
    by_cases c : m = 0
    · have := tx_len_le (k := 1) (n := z.natAbs) (by have e : Bp m = 1 := by rw [c]; rfl
                                                     omega) (by omega)
      omega
    · have := tx_len_le (Nat.lt_of_lt_of_le hz (Bp_ten m)) (by omega)
      omega
  have hs : (T z.natAbs).size = (tx z.natAbs).length := size_ns (ns_T _)
  unfold decimal_text.f
  refine Ev.bind (Text_to (S_cz hz) (by omega) (n := z.natAbs) (by rw [cz2, V_L])) ?_
  rw [w64 (x := (p : Int) + 1) (by omega) (by omega), w64 (by omega) (by omega)]
  by_cases c : (p : Int) + 1 - ((T z.natAbs).size : Int) > 0
  · refine Ev.ifp c ?_
    obtain ⟨R, hR, hn⟩ := repeat_0 (p + 1 - (tx z.natAbs).length) (by omega)
    rw [show (p : Int) + 1 - ((T z.natAbs).size : Int) = ((p + 1 - (tx z.natAbs).length : Nat) : Int) by omega, hR]
    simp only [Option.bind_some]
    have hRs := size_ns hn
    rw [List.length_replicate] at hRs
    refine Ev.ifp (by omega) (dtext_tail ?_ (by rw [ByteArray.size_append]; omega) hp rfl)
    rw [ns_append, hn, ns_T]; rfl
  · refine Ev.ifn c (dtext_tail ?_ (by omega) hp rfl)
    rw [ns_T]
    unfold pad
    rw [show p + 1 - (tx z.natAbs).length = 0 by omega]; rfl
theorem Down_to (h : Qs q) (hp : p ≤ 60) : Ev (fun k => decimal_Down.f k (cz q.num).1 (cz q.num).2 (L q.den) (p : Int)) (PT (fl q p) p, 0) := by
  unfold decimal_Down.f
  exact Ev.bind (dsplit_to h hp) (Ev.ifp rfl (Ev.bind (dtext_to (fl_lt h hp).1 (by omega) (by omega)) (Ev.now _)))
end Go.Proofs.YtjgmmaeafodpmaaGreatDoor.Lib
set_option linter.unusedVariables false
set_option linter.unusedSimpArgs false
namespace Go.Proofs.YtjgmmaeafodpmaaGreatDoor.Lib
open Go.RowKit Go.Proofs.YtjgmmaeafodpmaaGreatDoorW.PrintWords Go.Proofs.YtjgmmaeafodpmaaGreatDoorW.PrintMore Go.Proofs.YtjgmmaeafodpmaaGreatDoor.P
variable {m p : Nat} {a b c d l : List Int} {x y : Bool} {q r : Rat}
theorem rFloor10_to (h : Qs q) (hp : p ≤ 60) : Ev (fun k => steelyardref10_Floor.f k (cz q.num).1 (cz q.num).2 (L q.den) (p : Int)) (cz (fl q p)) := by
  obtain ⟨hR, h2, h3, h4⟩ := split_nat q p rfl rfl
  have ht := Qs_top h hp
  generalize hQe : q.num.natAbs * 10 ^ p / q.den = Q at *
  generalize hRe : q.num.natAbs * 10 ^ p % q.den = R at *
  have hQ : Q < Bp 73 := by rw [← hQe]; exact Nat.lt_of_le_of_lt (Nat.div_le_self _ _) ht
  have hRB : R < Bp 64 := Nat.lt_trans hR h.2
  have j : ∀ w : Bool, Ev (fun k => steelyardref10_Floor.j0 k w (cz (if q.num < 0 then -(Q : Int) else Q)).1 (cz (if q.num < 0 then -(Q : Int) else Q)).2) (if w = true then cz ((if q.num < 0 then -(Q : Int) else Q) - 1) else cz (if q.num < 0 then -(Q : Int) else Q)) := fun w => by
    refine Ev.succ ?_
    simp only [steelyardref10_Floor.j0]
    cases w with
    | false => exact Ev.ifn (by decide) (Ev.now _)
    | true =>
      refine Ev.ifp rfl (Ev.bind (rZOf_to (v := -1) (by omega) (by omega)) ?_)
      refine Ev.bind (rZAdd_to (m := 73) (S_cz ?_) (S_cz (z := -1) (by rw [Int.natAbs_neg]; exact one_lt_Bp (m := 73) (by omega))) (by omega) (z := (if q.num < 0 then -(Q : Int) else Q) - 1) (by rw [vz_cz, vz_cz]; omega)) (Ev.now _)
      split
      · rw [Int.natAbs_neg, Int.natAbs_natCast]; exact hQ
      · rw [Int.natAbs_natCast]; exact hQ
  unfold steelyardref10_Floor.f
  refine Ev.bind (rTen_to (by omega)) ?_
  refine Ev.bind (rMul_to (Qs_a h) (S_L (ten_Bp (m := 8) (j := p) (by omega))) (by omega) (n := q.num.natAbs * 10 ^ p) (by rw [cz2, V_L, V_L])) ?_
  refine Ev.bind (rRem_to (S_L ht) (Qs_b h) (by omega) (by omega) (by rw [V_L]; exact q.den_nz) (q := Q) (r := R) (by rw [V_L, V_L]; exact hQe) (by rw [V_L, V_L]; exact hRe)) ?_
  refine Ev.bind (rMake_to (S_L hQ) (by omega) (z := if q.num < 0 then -(Q : Int) else Q) (by rw [cz1, vz_if]; simp only [decide_eq_true_eq])) ?_
  by_cases c : q.num < 0
  · refine Ev.ifp (by rw [cz1]; exact decide_eq_true c) ?_
    dsimp only
    by_cases c0 : R = 0
    · have := j (decide (((L R).length : Int) > 0))
      rw [decide_eq_false (by have := (len0 (n := R)).2 c0; omega)] at this
      rw [decide_eq_false (by have := (len0 (n := R)).2 c0; omega)]
      rw [(h3 c c0).1]
      rw [if_pos c] at this ⊢
      exact this
    · have := j (decide (((L R).length : Int) > 0))
      have hl : ((L R).length : Int) > 0 := by
        have : ¬ ((L R).length : Int) = 0 := fun e => c0 (len0.1 e)
        omega
      rw [decide_eq_true hl] at this ⊢
      rw [(h4 c c0).1]
      rw [if_pos c] at this ⊢
      exact this
  · refine Ev.ifn (by rw [cz1, decide_eq_false c]; decide) ?_
    have := j false
    rw [(h2 (by omega)).1]
    rw [if_neg c] at this ⊢
    exact this
theorem point_tail {z : Int} {s : ByteArray} (hs : ns s = pad z p) (hz : s.size ≤ 100000) (hp : p ≤ 1000) {w : Bool} (hw : w = decide (z < 0)) : Ev (fun k => steelyardref10_Point.l0 k (p : Int) s w l) (PT z p) := by
  have hl := pad_len z p
  have hsz : s.size = (pad z p).length := size_ns hs
  have n1 : ns (s.extract 0 (s.size - p)) = (pad z p).take ((pad z p).length - p) := by rw [ns_extract, hs, List.drop_zero, hsz]; rfl
  have n2 : ns (s.extract (s.size - p) s.size) = (pad z p).drop ((pad z p).length - p) := by
    rw [ns_extract, hs, hsz, List.take_of_length_le (by rw [List.length_drop]; exact Nat.le_refl _)]
  have z1 := size_ns n1
  have z2 := size_ns n2
  rw [List.length_take] at z1
  rw [List.length_drop] at z2
  refine Ev.succ ?_
  simp only [steelyardref10_Point.l0]
  refine Ev.ifn (by omega) ?_
  by_cases c : p = 0
  · refine Ev.ifn (by omega) ?_
    have hf : ns s = ptl z p := by
      rw [hs]; unfold ptl; rw [if_pos c, List.append_nil, c, Nat.sub_zero, List.take_length]
    subst hw
    by_cases cz' : z < 0
    · rw [decide_eq_true cz']
      refine Ev.ifp rfl (Ev.ifp (by omega) (Ev.const ?_))
      refine congrArg some (ns_inj ?_)
      rw [ns_PT, ns_append, hf]; unfold pt; rw [if_pos cz']; rfl
    · rw [decide_eq_false cz']
      refine Ev.ifn (by decide) (Ev.const ?_)
      refine congrArg some (ns_inj ?_)
      rw [ns_PT, hf]; unfold pt; rw [if_neg cz']
  · refine Ev.ifp (by omega) ?_
    rw [w64 (by omega) (by omega), show ((s.size : Int) - (p : Int)) = ((s.size - p : Nat) : Int) by omega, Int.toNat_natCast]
    have hf : ns (s.extract 0 (s.size - p) ++ (⟨#[46]⟩ : ByteArray) ++ s.extract (s.size - p) s.size) = ptl z p := by
      rw [ns_append, ns_append, n1, n2]; unfold ptl; rw [if_neg c, List.append_assoc]; rfl
    have sd : (s.extract 0 (s.size - p) ++ (⟨#[46]⟩ : ByteArray)).size = (s.extract 0 (s.size - p)).size + 1 := by rw [ByteArray.size_append]; rfl
    have sf : (s.extract 0 (s.size - p) ++ (⟨#[46]⟩ : ByteArray) ++ s.extract (s.size - p) s.size).size = (s.extract 0 (s.size - p)).size + 1 + (s.extract (s.size - p) s.size).size := by rw [ByteArray.size_append, sd]
    refine Ev.ifp (by omega) (Ev.ifp (by omega) (Ev.ifp (by omega) (Ev.ifp (by omega) ?_)))
    subst hw
    by_cases cz' : z < 0
    · rw [decide_eq_true cz']
      refine Ev.ifp rfl (Ev.ifp (by omega) (Ev.const ?_))
      refine congrArg some (ns_inj ?_)
      rw [ns_PT, ns_append, hf]; unfold pt; rw [if_pos cz']; rfl
    · rw [decide_eq_false cz']
      refine Ev.ifn (by decide) (Ev.const ?_)
      refine congrArg some (ns_inj ?_)
      rw [ns_PT, hf]; unfold pt; rw [if_neg cz']
theorem point_loop {z : Int} (hz : (tx z.natAbs).length ≤ 90000) (hp : p ≤ 1000) : ∀ (e j : Nat) (s : ByteArray), j + e = p + 1 - (tx z.natAbs).length → ns s = List.replicate j 48 ++ tx z.natAbs →
    Ev (fun k => steelyardref10_Point.l0 k (p : Int) s (decide (z < 0)) l) (PT z p)
  | 0, j, s, hj, hs => point_tail (by rw [hs]; unfold pad; rw [← hj]; rfl) (by rw [size_ns hs, List.length_append, List.length_replicate]; omega) hp rfl
  | e + 1, j, s, hj, hs => by
    have hsz := size_ns hs
    rw [List.length_append, List.length_replicate] at hsz
    refine Ev.succ ?_
    simp only [steelyardref10_Point.l0]
    refine Ev.ifp (by omega) (Ev.ifp (by omega) (point_loop hz hp e (j + 1) _ (by omega) ?_))
    rw [ns_append, hs, List.replicate_succ]; rfl
theorem rPoint_to {z : Int} (hz : z.natAbs < Bp m) (hm : m ≤ 1000) (hp : p ≤ 1000) : Ev (fun k => steelyardref10_Point.f k (cz z).1 (cz z).2 (p : Int)) (PT z p) := by
  unfold steelyardref10_Point.f
  refine Ev.bind (rText_to (S_cz hz) (by omega) (n := z.natAbs) (by rw [cz2, V_L])) ?_
  rw [cz1]
  refine point_loop ?_ hp _ 0 _ (Nat.zero_add _) (by rw [ns_T]; rfl)
  by_cases c : m = 0
  · have := tx_len_le (k := 1) (n := z.natAbs) (by have e : Bp m = 1 := by rw [c]; rfl
                                                   omega) (by omega)
    omega
  · have := tx_len_le (Nat.lt_of_lt_of_le hz (Bp_ten m)) (by omega)
    omega
theorem rDown10_to (h : Qs q) (hp : p ≤ 60) : Ev (fun k => steelyardref10_Down.f k (cz q.num).1 (cz q.num).2 (L q.den) (p : Int)) (PT (fl q p) p) := by
  unfold steelyardref10_Down.f
  exact Ev.bind (rFloor10_to h hp) (Ev.bind (rPoint_to (fl_lt h hp).1 (by omega) (by omega)) (Ev.now _))
theorem L_1 : ([1] : List Int) = L 1 := (L_one (n := 1) (by omega) (by omega)).symm
theorem rMay_to (h : Qs q) (v : Int) : Ev (fun k => steelyardref10_May.f k (cz q.num).1 (cz q.num).2 (L q.den) v) (decide (0 ≤ v ∧ v ≤ 60)) := by
  unfold steelyardref10_May.f
  refine Ev.bind (rGood_yes h) (Ev.ifp rfl ?_)
  by_cases c : v ≥ 0
  · refine Ev.ifp c (Ev.const ?_)
    congr 1; rw [decide_eq_decide]; omega
  · refine Ev.ifn c (Ev.const ?_)
    rw [decide_eq_false (by omega)]
theorem rMay_no (sa : S m a) (sb : S m b) (hm : m ≤ 100000) (g : gq x a b = false) (v : Int) : Ev (fun k => steelyardref10_May.f k x a b v) false := by
  unfold steelyardref10_May.f
  exact Ev.bind (rGood_ev sa sb hm) (Ev.ifn (by rw [g]; decide) (Ev.now _))
end Go.Proofs.YtjgmmaeafodpmaaGreatDoor.Lib
set_option linter.unusedVariables false
set_option linter.unusedSimpArgs false
namespace Go.Proofs.YtjgmmaeafodpmaaGreatDoor.Lib
open Go.RowKit Go.Proofs.YtjgmmaeafodpmaaGreatDoorW.PrintWords Go.Proofs.YtjgmmaeafodpmaaGreatDoorW.PrintMore Go.Proofs.YtjgmmaeafodpmaaGreatDoor.P
variable {m p : Nat} {a b c d l : List Int} {x y : Bool} {q r : Rat}
def EX (q : Rat) : ByteArray := if q.den = 1 then TZ q.num else TZ q.num ++ ((⟨#[47]⟩ : ByteArray) ++ T q.den)
def badR : Bool × List Int × List Int × Int := (false, [], [], 12)
def PR (x : Bool) (a b : List Int) (s : ByteArray) : Bool × List Int × List Int × Int :=
  if V b = 0 then badR else if Qs (mkRat (vz x a) (V b)) ∧ EX (mkRat (vz x a) (V b)) = s then ((cz (mkRat (vz x a) (V b)).num).1, (cz (mkRat (vz x a) (V b)).num).2, L (mkRat (vz x a) (V b)).den, 0) else badR
end Go.Proofs.YtjgmmaeafodpmaaGreatDoor.Lib
set_option linter.unusedVariables false
set_option linter.unusedSimpArgs false
namespace Go.Proofs.YtjgmmaeafodpmaaGreatDoor.Lib
open Go.RowKit Go.Proofs.YtjgmmaeafodpmaaGreatDoorW.PrintWords Go.Proofs.YtjgmmaeafodpmaaGreatDoorW.PrintMore Go.Proofs.YtjgmmaeafodpmaaGreatDoor.P
variable {m p : Nat} {a b c d l : List Int} {x y : Bool} {q r : Rat}
end Go.Proofs.YtjgmmaeafodpmaaGreatDoor.Lib
set_option linter.unusedVariables false
set_option linter.unusedSimpArgs false
namespace Go.Proofs.YtjgmmaeafodpmaaGreatDoor.Lib
open Go.RowKit Go.Proofs.YtjgmmaeafodpmaaGreatDoorW.PrintWords Go.Proofs.YtjgmmaeafodpmaaGreatDoorW.PrintMore Go.Proofs.YtjgmmaeafodpmaaGreatDoor.P
variable {m p : Nat} {a b c d l : List Int} {x y : Bool} {q r : Rat}
theorem toList_ns {s : ByteArray} {l : List UInt8} (h : ns s = l.map fun b => (b.toNat : Int)) : s.toList = l := by
  rw [ByteArray.toList_eq]
  unfold ns at h
  exact (List.map_inj_right (f := fun b : UInt8 => (b.toNat : Int)) (fun a b e => UInt8.toNat_inj.1 (Int.ofNat.inj e))).1 h
theorem toList_PT {z : Int} {l : List UInt8} (h : pt z p = l.map fun b => (b.toNat : Int)) : (PT z p).toList = l := toList_ns (by rw [ns_PT, h])
end Go.Proofs.YtjgmmaeafodpmaaGreatDoor.Lib
set_option linter.unusedVariables false
set_option linter.unusedSimpArgs false
namespace Go.Proofs.YtjgmmaeafodpmaaGreatDoor.Lib
open Go.RowKit Go.Proofs.YtjgmmaeafodpmaaGreatDoorW.PrintWords Go.Proofs.YtjgmmaeafodpmaaGreatDoorW.PrintMore Go.Proofs.YtjgmmaeafodpmaaGreatDoor.P
variable {m p : Nat} {a b c d l : List Int} {x y : Bool} {q r : Rat}
theorem OwnRat_to (ha : a.length ≤ 1000000) (hb : b.length ≤ 1000000) (x : Bool) : steelyardkeep_OwnRat.f x a b = some (x, a, b) := by
  have h : ∀ l : List Int, l.length ≤ 1000000 → steelyardkeep_OwnNat.f l = some l := fun l hl => by
    unfold steelyardkeep_OwnNat.f
    simp only [Option.bind_some, List.nil_append, List.length_nil]
    rw [if_pos (by omega)]
  unfold steelyardkeep_OwnRat.f steelyardkeep_OwnInt.f
  rw [h a ha, h b hb]; rfl
end Go.Proofs.YtjgmmaeafodpmaaGreatDoor.Lib
set_option linter.unusedVariables false
set_option linter.unusedSimpArgs false
namespace Go.Proofs.YtjgmmaeafodpmaaGreatDoor.Lib
open Go.RowKit Go.Proofs.YtjgmmaeafodpmaaGreatDoorW.PrintWords Go.Proofs.YtjgmmaeafodpmaaGreatDoorW.PrintMore Go.Proofs.YtjgmmaeafodpmaaGreatDoor.P
variable {m p : Nat} {a b c d l : List Int} {x y : Bool} {q r : Rat}
end Go.Proofs.YtjgmmaeafodpmaaGreatDoor.Lib
set_option linter.unusedVariables false
set_option linter.unusedSimpArgs false
namespace Go.Proofs.YtjgmmaeafodpmaaGreatDoor.Lib
open Go.RowKit Go.Proofs.YtjgmmaeafodpmaaGreatDoorW.PrintWords Go.Proofs.YtjgmmaeafodpmaaGreatDoorW.PrintMore Go.Proofs.YtjgmmaeafodpmaaGreatDoor.P
variable {m p : Nat} {a b c d l : List Int} {x y : Bool} {q r : Rat}
theorem tmod20 {v : Int} (h : (Lit.int .u8 v).wf = true) : ∃ p : Nat, p < 20 ∧ Int.tmod (wrap64 v) 20 = (p : Int) := by
  have b := bounds_u8 h
  refine ⟨(v % 20).toNat, by omega, ?_⟩
  rw [w64 (by omega) (by omega), Int.tmod_eq_emod_of_nonneg (by omega)]
  omega
theorem rtrim_any (l : List Int) (hl : l.length ≤ 4611686018427387904) : ∃ t, steelyardref07_trimmed.f l = some t := by
  unfold steelyardref07_trimmed.f
  by_cases h0 : l.length = 0
  · exact ⟨_, by rw [if_pos (by omega)]⟩
  · exact ⟨_, by rw [if_neg (by omega), w64_pred (by omega) (by omega), if_pos (by omega), if_pos (by omega)]⟩
theorem rGood_long (ha : a.length ≤ 4611686018427387904) (hb : b.length ≤ 4611686018427387904) (h : 64 < a.length ∨ 64 < b.length) : Ev (fun k => steelyardref07_Good.f k x a b) false := by
  obtain ⟨t, ht⟩ := rtrim_any a ha
  obtain ⟨u, hu⟩ := rtrim_any b hb
  unfold steelyardref07_Good.f
  rw [ht, hu]
  simp only [Option.bind_some]
  have tail : ∀ G : Nat → Option Bool, Ev (fun k => if (a.length : Int) > 64 then some false else if (b.length : Int) > 64 then some false else G k) false := fun G => by
    by_cases c : (a.length : Int) > 64
    · exact Ev.ifp c (Ev.now _)
    · exact Ev.ifn c (Ev.ifp (by omega) (Ev.now _))
  cases t with
  | false => exact Ev.ifn (by decide) (Ev.now _)
  | true =>
    refine Ev.ifp rfl ?_
    cases u with
    | false => exact Ev.ifn (by decide) (Ev.now _)
    | true =>
      refine Ev.ifp rfl ?_
      by_cases h0 : (b.length : Int) = 0
      · exact Ev.ifp h0 (Ev.now _)
      · refine Ev.ifn h0 ?_
        cases x with
        | false => exact Ev.ifn (by decide) (tail _)
        | true =>
          refine Ev.ifp rfl ?_
          by_cases h1 : (a.length : Int) = 0
          · exact Ev.ifp h1 (Ev.now _)
          · exact Ev.ifn h1 (tail _)
theorem good20 (wa : ∀ x ∈ a, (Lit.int .u32 x).wf = true) (wb : ∀ x ∈ b, (Lit.int .u32 x).wf = true) (ha : a.length * 4 ≤ 140737488351232) (hb : b.length * 4 ≤ 140737488351232) :
    Ev (fun k => steelyardref07_Good.f k x a b) false ∨ (Ev (fun k => steelyardref07_Good.f k x a b) true ∧ ∃ q : Rat, Qs q ∧ x = (cz q.num).1 ∧ a = (cz q.num).2 ∧ b = L q.den) := by
  by_cases c : 64 < a.length ∨ 64 < b.length
  · exact .inl (rGood_long (by omega) (by omega) c)
  · have sa : S 64 a := ⟨wf_u32 wa, by omega⟩
    have sb : S 64 b := ⟨wf_u32 wb, by omega⟩
    have h := rGood_ev (x := x) sa sb (by omega)
    cases g : gq x a b with
    | false => rw [g] at h; exact .inl h
    | true => rw [g] at h; exact .inr ⟨h, gq_spec g⟩
end Go.Proofs.YtjgmmaeafodpmaaGreatDoor.Lib
set_option linter.unusedVariables false
set_option linter.unusedSimpArgs false
namespace Go.Proofs.YtjgmmaeafodpmaaGreatDoor.Lib
open Go.RowKit Go.Proofs.YtjgmmaeafodpmaaGreatDoorW.PrintWords Go.Proofs.YtjgmmaeafodpmaaGreatDoorW.PrintMore Go.Proofs.YtjgmmaeafodpmaaGreatDoor.P
variable {m p j : Nat} {a b c d l : List Int} {x y : Bool} {q r : Rat}
theorem leS {x y s : Rat} (hs : 0 < s) {u w : Int} (hx : x * s = u) (hy : y * s = w) : x ≤ y ↔ u ≤ w := by
  constructor
  · intro h
    have := Rat.mul_le_mul_of_nonneg_right h (Rat.le_of_lt hs)
    rw [hx, hy] at this
    exact Rat.intCast_le_intCast.1 this
  · intro h
    refine Rat.le_of_mul_le_mul_right (c := s) ?_ hs
    rw [hx, hy]
    exact Rat.intCast_le_intCast.2 h
theorem tenS (p : Nat) : (0 : Rat) < ((10 ^ p : Nat) : Rat) := Rat.natCast_pos.2 (Nat.pos_of_ne_zero (ten_ne p))
theorem mkS (z : Int) (p j : Nat) : mkRat z (10 ^ p) * ((10 ^ (p + j) : Nat) : Rat) = ((z * (10 ^ j : Nat) : Int) : Rat) := by
  have h2 := Rat.ne_of_gt (tenS p)
  have h3 : (((10 ^ j : Nat) : Int) : Rat) = ((10 ^ j : Nat) : Rat) := rfl
  rw [mk_div, Rat.intCast_mul, Nat.pow_add, Rat.natCast_mul, h3]
  generalize ((10 ^ p : Nat) : Rat) = T at *
  generalize ((10 ^ j : Nat) : Rat) = J at *
  grind
end Go.Proofs.YtjgmmaeafodpmaaGreatDoor.Lib
set_option linter.unusedVariables false
set_option linter.unusedSimpArgs false
namespace Go.Proofs.YtjgmmaeafodpmaaGreatDoor.Lib
open Go.RowKit Go.Proofs.YtjgmmaeafodpmaaGreatDoorW.PrintWords Go.Proofs.YtjgmmaeafodpmaaGreatDoorW.PrintMore Go.Proofs.YtjgmmaeafodpmaaGreatDoor.P
variable {m p : Nat} {a b c d l : List Int} {x y : Bool} {q r : Rat}
def uQ (q : Rat) (p : Nat) : Nat := q.num.natAbs * (10 ^ p * 10 ^ p) / q.den
def uR (q : Rat) (p : Nat) : Nat := q.num.natAbs * (10 ^ p * 10 ^ p) % q.den
def lo (q : Rat) (p : Nat) : Nat := rt (uQ q p)
def hi (q : Rat) (p : Nat) : Nat := if lo q p * lo q p = uQ q p ∧ uR q p = 0 then lo q p else lo q p + 1
def RL (q : Rat) (p : Nat) : Rat := mkRat (lo q p : Int) (10 ^ p)
def RH (q : Rat) (p : Nat) : Rat := mkRat (hi q p : Int) (10 ^ p)
def RR (q : Rat) (p : Nat) : Bool × List Int × List Int × Bool × List Int × List Int × Int := ((cz (RL q p).num).1, (cz (RL q p).num).2, L (RL q p).den, (cz (RH q p).num).1, (cz (RH q p).num).2, L (RH q p).den, 0)
theorem u_lt (h : Qs q) (hp : p ≤ 60) : q.num.natAbs * (10 ^ p * 10 ^ p) < Bp 82 ∧ uQ q p < Bp 82 ∧ uR q p < Bp 64 ∧ lo q p < Bp 82 ∧ hi q p < Bp 83 := by
  have t := ten_Bp (m := 8) (j := p) (by omega)
  have h1 : q.num.natAbs * (10 ^ p * 10 ^ p) < Bp 82 := lt_mul h.1 (lt_mul t t (p := 18) (by omega)) (by omega)
  have h2 : uQ q p < Bp 82 := Nat.lt_of_le_of_lt (Nat.div_le_self _ _) h1
  have h3 : lo q p < Bp 82 := rt_Bp h2
  refine ⟨h1, h2, Nat.lt_trans (Nat.mod_lt _ (Nat.pos_of_ne_zero q.den_nz)) h.2, h3, ?_⟩
  unfold hi
  split
  · exact lt_up h3 (by omega)
  · exact lt_add h3 (one_lt_Bp (m := 82) (by omega)) (by omega)
theorem lo_hi (q : Rat) (p : Nat) : hi q p = lo q p ∨ hi q p = lo q p + 1 := by unfold hi; split <;> simp
theorem Bp_sq (m : Nat) : Bp m * Bp m = Bp (m + m) := by unfold Bp; rw [Nat.pow_add]
theorem lo_lt (h : Qs q) (hp : p ≤ 60) : lo q p < Bp 41 ∧ hi q p < Bp 42 := by
  have u2 := (u_lt h hp).2.1
  have l : lo q p < Bp 41 := by
    have h1 : lo q p * lo q p ≤ uQ q p := rt_le (uQ q p)
    exact sq_lt (Nat.lt_of_le_of_lt h1 (by rw [Bp_sq]; exact u2))
  refine ⟨l, ?_⟩
  rcases lo_hi q p with e | e
  · rw [e]; exact lt_up l (by omega)
  · rw [e]; exact lt_add l (one_lt_Bp (m := 41) (by omega)) (by omega)
theorem RL_Qs (h : Qs q) (hp : p ≤ 60) : Qs (RL q p) := Qs_mk (ten_ne p) (by rw [Int.natAbs_natCast]; exact lt_up (lo_lt h hp).1 (by omega)) (lt_up (ten_Bp (m := 8) (j := p) (by omega)) (by omega))
theorem RH_Qs (h : Qs q) (hp : p ≤ 60) : Qs (RH q p) := Qs_mk (ten_ne p) (by rw [Int.natAbs_natCast]; exact lt_up (lo_lt h hp).2 (by omega)) (lt_up (ten_Bp (m := 8) (j := p) (by omega)) (by omega))
theorem eRoot_to (h : Qs q) (h0 : 0 ≤ q.num) (hp : p ≤ 60) : Ev (fun k => enclose_Root.f k (cz q.num).1 (cz q.num).2 (L q.den) (p : Int)) (RR q p) := by
  obtain ⟨u1, u2, u3, u4, u5⟩ := u_lt h hp
  have t := ten_Bp (m := 8) (j := p) (by omega)
  have j2 : ∀ v : Nat, v = hi q p → Ev (fun k => enclose_Root.j2 k (L (10 ^ p)) (L (lo q p)) (L v)) (RR q p) := fun v hv => by
    subst hv
    refine Ev.succ ?_
    simp only [enclose_Root.j2]
    refine Ev.bind (qOf_to (m := 83) (x := false) (S_L (lt_up u4 (by omega))) (S_L (lt_up t (by omega))) (by omega) (by rw [V_L]; exact ten_ne p) (q := RL q p) (by rw [vz_f, V_L, V_L]; rfl)) ?_
    have hH := qOf_to (m := 83) (x := false) (S_L (n := hi q p) u5) (S_L (lt_up t (by omega))) (by omega) (by rw [V_L]; exact ten_ne p) (q := RH q p) (by rw [vz_f, V_L, V_L]; rfl)
    rw [qr_yes (RH_Qs h hp)] at hH
    rw [qr_yes (RL_Qs h hp)]
    exact Ev.ifp rfl (Ev.bind hH (Ev.ifp rfl (Ev.now _)))
  have j1 : ∀ w : Bool, w = decide (¬ (lo q p * lo q p = uQ q p ∧ uR q p = 0)) → Ev (fun k => enclose_Root.j1 k (L (10 ^ p)) (L (lo q p)) (L (lo q p)) w) (RR q p) := fun w hw => by
    refine Ev.succ ?_
    simp only [enclose_Root.j1]
    by_cases c : lo q p * lo q p = uQ q p ∧ uR q p = 0
    · rw [decide_eq_false (fun e => e c)] at hw
      subst hw
      exact Ev.ifn (by decide) (j2 _ (by unfold hi; rw [if_pos c]))
    · rw [decide_eq_true c] at hw
      subst hw
      refine Ev.ifp rfl (Ev.bind (Of_to (v := 1) (by omega) (by omega) (n := 1) rfl) (Ev.bind (Add_to (m := 82) (S_L u4) (S_L (one_lt_Bp (by omega))) (by omega) (n := lo q p + 1) (by rw [V_L, V_L])) (j2 _ ?_)))
      unfold hi; rw [if_neg c]
  have hs : ¬ cmpQ q 0 < 0 := by
    rw [cmpQ_0]; rcases cmpZ_cases q.num 0 with ⟨h', e⟩ | ⟨h', e⟩ | ⟨h', e⟩ <;> omega
  unfold enclose_Root.f
  refine Ev.bind (qGood_yes h) (Ev.ifp rfl (Ev.ifn (by omega) ?_))
  rw [decide_eq_false (by omega)]
  refine Ev.succ ?_
  simp only [enclose_Root.j0]
  refine Ev.ifn (by decide) (Ev.bind (qSign_to h) (Ev.ifn hs (Ev.bind (Ten_to (by omega)) ?_)))
  refine Ev.bind (Mul_to (S_L t) (S_L t) (by omega) (n := 10 ^ p * 10 ^ p) (by rw [V_L])) ?_
  refine Ev.bind (Mul_to (p := 18) (Qs_a h) (S_L (lt_mul t t (by omega))) (by omega) (n := q.num.natAbs * (10 ^ p * 10 ^ p)) (by rw [cz2, V_L, V_L])) ?_
  refine Ev.bind (Rem_to (S_L u1) (Qs_b h) (by omega) (by omega) (by rw [V_L]; exact q.den_nz) (q := uQ q p) (r := uR q p) (by rw [V_L, V_L]; rfl) (by rw [V_L, V_L]; rfl)) ?_
  refine Ev.bind (Floor_to (S_L u2) (by omega) (n := uQ q p) (V_L _)) ?_
  have hl := (S_L u4).2
  dsimp only
  rw [Int.toNat_natCast]
  refine Ev.ifp (by omega) (Ev.ifp (by unfold lo at hl; omega) ?_)
  simp only [Option.bind_some]
  rw [cpy_all]
  by_cases c : rt (uQ q p) * rt (uQ q p) = uQ q p
  · rw [decide_eq_true c]
    refine Ev.ifp rfl (j1 _ ?_)
    rw [decide_eq_decide]
    have := len0 (n := uR q p)
    unfold lo
    omega
  · rw [decide_eq_false c]
    refine Ev.ifn (by decide) (j1 _ ?_)
    exact (decide_eq_true (p := ¬ (lo q p * lo q p = uQ q p ∧ uR q p = 0)) (fun e => c e.1)).symm
theorem eRoot_yes (h : Qs q) (h0 : 0 ≤ q.num) (hp : p ≤ 60) : Ev (fun k => enclose_Root.f k (cz q.num).1 (cz q.num).2 (L q.den) (p : Int)) ((cz (RL q p).num).1, (cz (RL q p).num).2, L (RL q p).den, (cz (RH q p).num).1, (cz (RH q p).num).2, L (RH q p).den, 0) := eRoot_to h h0 hp
theorem eRoot_neg (h : Qs q) (h0 : q.num < 0) (hp : p ≤ 60) : Ev (fun k => enclose_Root.f k (cz q.num).1 (cz q.num).2 (L q.den) (p : Int)) (false, [], [], false, [], [], 18) := by
  unfold enclose_Root.f
  refine Ev.bind (qGood_yes h) (Ev.ifp rfl (Ev.ifn (by omega) ?_))
  rw [decide_eq_false (by omega)]
  refine Ev.succ ?_
  simp only [enclose_Root.j0]
  exact Ev.ifn (by decide) (Ev.bind (qSign_to h) (Ev.ifp (by rw [cmpQ_0, cmpZ_lt h0]; decide) (Ev.now _)))
theorem eRoot_no {v : Int} (sa : S m a) (sb : S m b) (hm : m ≤ 800000) (h : gq x a b = false ∨ v < 0 ∨ 60 < v) : Ev (fun k => enclose_Root.f k x a b v) (false, [], [], false, [], [], 1) := by
  have jt : Ev (fun k => enclose_Root.j0 k v true x a b) (false, [], [], false, [], [], 1) := Ev.succ (by simp only [enclose_Root.j0]; exact Ev.ifp trivial (Ev.now _))
  unfold enclose_Root.f
  refine Ev.bind (qGood_ev sa sb hm) ?_
  by_cases g : gq x a b = true
  · refine Ev.ifp g ?_
    by_cases c : v < 0
    · exact Ev.ifp c jt
    · refine Ev.ifn c ?_
      rw [decide_eq_true (show v > 60 by rcases h with h | h | h <;> first | (rw [g] at h; cases h) | omega)]
      exact jt
  · exact Ev.ifn g jt
theorem rSign_to (h : Qs q) : Ev (fun n => steelyardref07_Sign.f n (cz q.num).1 (cz q.num).2 (L q.den)) (cmpQ q 0) := by
  have h0 : Qs (0 : Rat) := Qs_int (z := 0) (by decide)
  unfold steelyardref07_Sign.f
  refine Ev.bind (rWhole_to (v := 0) (by omega) (by omega)) (Ev.bind ?_ (Ev.now _))
  unfold steelyardref07_Cmp.f
  exact Ev.bind (rGood_yes h) (Ev.ifp rfl (Ev.bind (rGood_yes h0) (Ev.ifp rfl (Ev.bind (rLessQ_to (Qs_m h) (Qs_m h0) (by omega)) (Ev.now _)))))
theorem rRoot25_to (h : Qs q) (h0 : 0 ≤ q.num) (hp : p ≤ 60) : Ev (fun k => steelyardref25_Root.f k (cz q.num).1 (cz q.num).2 (L q.den) (p : Int)) (RR q p) := by
  obtain ⟨u1, u2, u3, u4, u5⟩ := u_lt h hp
  have t := ten_Bp (m := 8) (j := p) (by omega)
  have j1 : ∀ v : Nat, v = hi q p → Ev (fun k => steelyardref25_Root.j1 k (L (10 ^ p)) (L (lo q p)) (L v)) (RR q p) := fun v hv => by
    subst hv
    refine Ev.succ ?_
    simp only [steelyardref25_Root.j1]
    refine Ev.bind (rMake_to (x := false) (S_L u4) (by omega) (z := (lo q p : Int)) (by rw [vz_f, V_L])) ?_
    refine Ev.bind (rqOf_to (m := 83) (S_cz (z := (lo q p : Int)) (by rw [Int.natAbs_natCast]; exact lt_up u4 (by omega))) (S_L (lt_up t (by omega))) (by omega) (by rw [V_L]; exact ten_ne p) (q := RL q p) (by rw [vz_cz, V_L]; rfl)) ?_
    refine Ev.bind (rMake_to (x := false) (S_L u5) (by omega) (z := (hi q p : Int)) (by rw [vz_f, V_L])) ?_
    refine Ev.bind (rqOf_to (m := 83) (S_cz (z := (hi q p : Int)) (by rw [Int.natAbs_natCast]; exact u5)) (S_L (lt_up t (by omega))) (by omega) (by rw [V_L]; exact ten_ne p) (q := RH q p) (by rw [vz_cz, V_L]; rfl)) ?_
    rw [qr_yes (RL_Qs h hp), qr_yes (RH_Qs h hp)]
    exact Ev.ifp rfl (Ev.ifp rfl (Ev.now _))
  have j0 : ∀ w : Bool, w = decide (¬ (lo q p * lo q p = uQ q p ∧ uR q p = 0)) → Ev (fun k => steelyardref25_Root.j0 k (L (10 ^ p)) (L (lo q p)) (L (lo q p)) w) (RR q p) := fun w hw => by
    refine Ev.succ ?_
    simp only [steelyardref25_Root.j0]
    by_cases c : lo q p * lo q p = uQ q p ∧ uR q p = 0
    · rw [decide_eq_false (fun e => e c)] at hw
      subst hw
      exact Ev.ifn (by decide) (j1 _ (by unfold hi; rw [if_pos c]))
    · rw [decide_eq_true c] at hw
      subst hw
      rw [L_1]
      refine Ev.ifp rfl (Ev.bind (rAdd_to (m := 82) (S_L u4) (S_L (one_lt_Bp (by omega))) (by omega) (n := lo q p + 1) (by rw [V_L, V_L])) (j1 _ ?_))
      unfold hi; rw [if_neg c]
  have hs : ¬ cmpQ q 0 < 0 := by
    rw [cmpQ_0]; rcases cmpZ_cases q.num 0 with ⟨h', e⟩ | ⟨h', e⟩ | ⟨h', e⟩ <;> omega
  unfold steelyardref25_Root.f
  refine Ev.bind (rMay_to h _) (Ev.ifp (decide_eq_true (by omega)) (Ev.bind (rSign_to h) (Ev.ifn hs (Ev.bind (rTen_to (by omega)) ?_))))
  refine Ev.bind (rMul_to (S_L t) (S_L t) (by omega) (n := 10 ^ p * 10 ^ p) (by rw [V_L])) ?_
  refine Ev.bind (rMul_to (p := 18) (Qs_a h) (S_L (lt_mul t t (by omega))) (by omega) (n := q.num.natAbs * (10 ^ p * 10 ^ p)) (by rw [cz2, V_L, V_L])) ?_
  refine Ev.bind (rRem_to (S_L u1) (Qs_b h) (by omega) (by omega) (by rw [V_L]; exact q.den_nz) (q := uQ q p) (r := uR q p) (by rw [V_L, V_L]; rfl) (by rw [V_L, V_L]; rfl)) ?_
  refine Ev.bind (rFloor_to (S_L u2) (by omega) (n := uQ q p) (V_L _)) ?_
  dsimp only
  by_cases c0 : uR q p = 0
  · have e0 := (len0 (n := uR q p)).2 c0
    refine Ev.ifn (by omega) (Ev.bind (rExact_to (S_L u2) (by omega) (n := uQ q p) (V_L _)) (j0 _ ?_))
    rw [Bool.eq_iff_iff, Bool.not_eq_true', decide_eq_false_iff_not, decide_eq_true_eq]
    unfold lo
    exact ⟨fun e f => e f.1, fun e f => e ⟨f, c0⟩⟩
  · have e0 : ¬ ((L (uR q p)).length : Int) = 0 := fun e => c0 (len0.1 e)
    refine Ev.ifp (by omega) (j0 _ ?_)
    exact (decide_eq_true (p := ¬ (lo q p * lo q p = uQ q p ∧ uR q p = 0)) (fun e => c0 e.2)).symm
theorem rRoot25_yes (h : Qs q) (h0 : 0 ≤ q.num) (hp : p ≤ 60) : Ev (fun k => steelyardref25_Root.f k (cz q.num).1 (cz q.num).2 (L q.den) (p : Int)) ((cz (RL q p).num).1, (cz (RL q p).num).2, L (RL q p).den, (cz (RH q p).num).1, (cz (RH q p).num).2, L (RH q p).den, 0) := rRoot25_to h h0 hp
end Go.Proofs.YtjgmmaeafodpmaaGreatDoor.Lib
set_option linter.unusedVariables false
set_option linter.unusedSimpArgs false
namespace Go.Proofs.YtjgmmaeafodpmaaGreatDoor.Lib
open Go.RowKit Go.Proofs.YtjgmmaeafodpmaaGreatDoorW.PrintWords Go.Proofs.YtjgmmaeafodpmaaGreatDoorW.PrintMore Go.Proofs.YtjgmmaeafodpmaaGreatDoor.P
variable {m p : Nat} {a b c d l : List Int} {x y : Bool} {q r : Rat}
theorem den0 (q : Rat) : 0 < q.den := Nat.pos_of_ne_zero q.den_nz
theorem u_eq (q : Rat) (p : Nat) : q.num.natAbs * (10 ^ p * 10 ^ p) = uQ q p * q.den + uR q p := by
  unfold uQ uR
  rw [Nat.mul_comm (_ / _)]
  exact (Nat.div_add_mod _ _).symm
theorem uR_lt (q : Rat) (p : Nat) : uR q p < q.den := Nat.mod_lt _ (den0 q)
theorem lo_le (q : Rat) (p : Nat) : lo q p * lo q p * q.den ≤ q.num.natAbs * (10 ^ p * 10 ^ p) := by
  have h := Nat.mul_le_mul_right q.den (rt_le (uQ q p))
  have := u_eq q p
  unfold lo
  omega
theorem lo_max {h : Nat} (k : h * h * q.den ≤ q.num.natAbs * (10 ^ p * 10 ^ p)) : h ≤ lo q p := by
  have e : h * h ≤ uQ q p := (Nat.le_div_iff_mul_le (den0 q)).2 k
  have := sq_lt (Nat.lt_of_le_of_lt e (rt_lt (uQ q p)))
  unfold lo
  omega
theorem hi_ge (q : Rat) (p : Nat) : q.num.natAbs * (10 ^ p * 10 ^ p) ≤ hi q p * hi q p * q.den := by
  have e := u_eq q p
  unfold hi
  split
  · rename_i h
    rw [h.1, e, h.2]; omega
  · have h1 : uQ q p + 1 ≤ (lo q p + 1) * (lo q p + 1) := rt_lt (uQ q p)
    have h2 := Nat.mul_le_mul_right q.den h1
    have h3 := uR_lt q p
    rw [Nat.add_mul, Nat.one_mul] at h2
    omega
theorem hi_min {h : Nat} (k : q.num.natAbs * (10 ^ p * 10 ^ p) ≤ h * h * q.den) : hi q p ≤ h := by
  have l1 := lo_le q p
  have l2 : lo q p ≤ h := sq_le (Nat.le_of_mul_le_mul_right (Nat.le_trans l1 k) (den0 q))
  unfold hi
  split
  · exact l2
  · rename_i c
    rcases Nat.lt_or_ge (lo q p) h with h1 | h1
    · exact h1
    · exfalso
      have e0 : h = lo q p := by omega
      subst e0
      have e := u_eq q p
      have r1 : lo q p * lo q p ≤ uQ q p := rt_le (uQ q p)
      have r2 := Nat.mul_le_mul_right q.den r1
      have h2 : uR q p = 0 := by omega
      have h3 : lo q p * lo q p * q.den = uQ q p * q.den := by omega
      exact c ⟨Nat.eq_of_mul_eq_mul_right (den0 q) h3, h2⟩
theorem eText_to (h : Qs q) (h0 : 0 ≤ q.num) (hp : p ≤ 60) : Ev (fun k => enclose_Text.f k (cz q.num).1 (cz q.num).2 (L q.den) (p : Int)) (PT (fl (RL q p) p) p, PT (fl (RH q p) p) p, 0) := by
  unfold enclose_Text.f
  refine Ev.bind (eRoot_yes h h0 hp) (Ev.ifp rfl (Ev.bind (Down_to (RL_Qs h hp) hp) ?_))
  refine Ev.succ ?_
  simp only [enclose_Text.j0]
  exact Ev.ifp trivial (Ev.bind (Down_to (RH_Qs h hp) hp) (Ev.ifp rfl (Ev.now _)))
theorem eText_err {v e : Int} (hr : Ev (fun k => enclose_Root.f k x a b v) (false, [], [], false, [], [], e)) (he : e ≠ 0) : Ev (fun k => enclose_Text.f k x a b v) ((⟨#[]⟩ : ByteArray), (⟨#[]⟩ : ByteArray), e) := by
  unfold enclose_Text.f
  refine Ev.bind hr (Ev.ifn he ?_)
  refine Ev.succ ?_
  simp only [enclose_Text.j0]
  exact Ev.ifn he (Ev.now _)
theorem wakes25 : Ev (fun k => steelyardlaw25_wakes.f k) true := by
  have s1 : Qs (mkRat 2 1) := by decide +kernel
  have s2 : Qs (mkRat 9 4) := by decide +kernel
  have s3 : Qs (mkRat 1 3) := by decide +kernel
  have s4 : Qs (mkRat (-1) 3) := by decide +kernel
  have b1 := By_to (u := 2) (n := 1) (by omega) (by omega) (by omega) (by omega) rfl s1
  have b2 := By_to (u := 9) (n := 4) (by omega) (by omega) (by omega) (by omega) rfl s2
  have b3 := By_to (u := 1) (n := 3) (by omega) (by omega) (by omega) (by omega) rfl s3
  have b4 := By_to (u := -1) (n := 3) (by omega) (by omega) (by omega) (by omega) rfl s4
  have b5 := By_to (u := 1) (n := 1) (q := mkRat 1 1) (by omega) (by omega) (by omega) (by omega) rfl (by decide +kernel)
  have t1 := eText_to s1 (by decide +kernel) (p := 2) (by omega)
  have t2 := eText_to s2 (by decide +kernel) (p := 1) (by omega)
  have r3 := eRoot_yes s3 (by decide +kernel) (p := 0) (by omega)
  have r4 := eRoot_neg s4 (by decide +kernel) (p := 0) (by omega)
  have r5 := eRoot_no (x := (cz (mkRat 1 3).num).1) (v := 61) (Qs_a s3) (Qs_b s3) (by omega) (.inr (.inr (by omega)))
  have l1 : lo (mkRat 2 1) 2 = 141 := by unfold lo; rw [show uQ (mkRat 2 1) 2 = 20000 by decide +kernel]; exact rt_unique (by omega) (by omega)
  have l2 : lo (mkRat 9 4) 1 = 15 := by unfold lo; rw [show uQ (mkRat 9 4) 1 = 225 by decide +kernel]; exact rt_unique (by omega) (by omega)
  have l3 : lo (mkRat 1 3) 0 = 0 := by unfold lo; rw [show uQ (mkRat 1 3) 0 = 0 by decide +kernel]; rfl
  have h1 : hi (mkRat 2 1) 2 = 142 := by unfold hi; rw [l1, show uQ (mkRat 2 1) 2 = 20000 by decide +kernel, if_neg (by omega)]
  have h2 : hi (mkRat 9 4) 1 = 15 := by unfold hi; rw [l2, show uQ (mkRat 9 4) 1 = 225 by decide +kernel, show uR (mkRat 9 4) 1 = 0 by decide +kernel, if_pos (by omega)]
  have h3 : hi (mkRat 1 3) 0 = 1 := by unfold hi; rw [l3, show uR (mkRat 1 3) 0 = 1 by decide +kernel, if_neg (by omega)]
  have e1 : RL (mkRat 2 1) 2 = mkRat 141 100 := by unfold RL; rw [l1]; rfl
  have e2 : RH (mkRat 2 1) 2 = mkRat 142 100 := by unfold RH; rw [h1]; rfl
  have e3 : RL (mkRat 9 4) 1 = mkRat 15 10 := by unfold RL; rw [l2]; rfl
  have e4 : RH (mkRat 9 4) 1 = mkRat 15 10 := by unfold RH; rw [h2]; rfl
  have e5 : RL (mkRat 1 3) 0 = 0 := by unfold RL; rw [l3]; decide +kernel
  have e6 : RH (mkRat 1 3) 0 = mkRat 1 1 := by unfold RH; rw [h3]; rfl
  have y1 : (PT (fl (RL (mkRat 2 1) 2) 2) 2).toList = ([49, 46, 52, 49] : List UInt8) := by rw [e1]; exact toList_PT (by decide +kernel)
  have y2 : (PT (fl (RH (mkRat 2 1) 2) 2) 2).toList = ([49, 46, 52, 50] : List UInt8) := by rw [e2]; exact toList_PT (by decide +kernel)
  have y3 : (PT (fl (RL (mkRat 9 4) 1) 1) 1).toList = ([49, 46, 53] : List UInt8) := by rw [e3]; exact toList_PT (by decide +kernel)
  have y4 : (PT (fl (RH (mkRat 9 4) 1) 1) 1).toList = ([49, 46, 53] : List UInt8) := by rw [e4]; exact toList_PT (by decide +kernel)
  unfold steelyardlaw25_wakes.f
  refine Ev.bind b1 (Ev.bind t1 (Ev.bind b2 (Ev.bind t2 (Ev.bind b3 (Ev.bind r3 (Ev.bind b4 (Ev.bind r4 (Ev.bind b3 (Ev.bind r5 ?_)))))))))
  refine Ev.ifp rfl (Ev.ifp y1 (Ev.ifp y2 (Ev.ifp rfl (Ev.ifp y3 (Ev.ifp y4 (Ev.ifp rfl (Ev.bind (qSign_to (RL_Qs s3 (by omega))) ?_)))))))
  refine Ev.ifp (by rw [e5]; exact cmpQ_eq 0) (Ev.bind b5 (Ev.bind (keepQ_to (RH_Qs s3 (by omega)) e6) (Ev.ifp rfl (Ev.ifp rfl (Ev.const rfl)))))
theorem rRoot25_neg (h : Qs q) (h0 : q.num < 0) (hp : p ≤ 60) : Ev (fun k => steelyardref25_Root.f k (cz q.num).1 (cz q.num).2 (L q.den) (p : Int)) (false, [], [], false, [], [], 18) := by
  unfold steelyardref25_Root.f
  exact Ev.bind (rMay_to h _) (Ev.ifp (decide_eq_true (by omega)) (Ev.bind (rSign_to h) (Ev.ifp (by rw [cmpQ_0, cmpZ_lt h0]; decide) (Ev.now _))))
theorem rRoot25_no {v : Int} (hm : Ev (fun k => steelyardref10_May.f k x a b v) false) : Ev (fun k => steelyardref25_Root.f k x a b v) (false, [], [], false, [], [], 1) := by
  unfold steelyardref25_Root.f
  exact Ev.bind hm (Ev.ifn (by decide) (Ev.now _))
end Go.Proofs.YtjgmmaeafodpmaaGreatDoor.Lib
set_option linter.unusedVariables false
set_option linter.unusedSimpArgs false
namespace Go.Proofs.YtjgmmaeafodpmaaGreatDoor.Lib
open Go.RowKit Go.Proofs.YtjgmmaeafodpmaaGreatDoorW.PrintWords Go.Proofs.YtjgmmaeafodpmaaGreatDoorW.PrintMore Go.Proofs.YtjgmmaeafodpmaaGreatDoor.P
variable {m p j : Nat} {a b c d l : List Int} {x y : Bool} {q r : Rat}
theorem lo_step (q : Rat) (p j : Nat) : lo q p * 10 ^ j ≤ lo q (p + j) := by
  refine lo_max ?_
  have h := Nat.mul_le_mul_right (10 ^ j * 10 ^ j) (lo_le q p)
  rw [Nat.pow_add]
  generalize 10 ^ j = J at *
  generalize 10 ^ p = T at *
  generalize lo q p = l at *
  generalize q.den = d at *
  generalize q.num.natAbs = n at *
  rw [show l * J * (l * J) * d = l * l * d * (J * J) by ac_rfl, show n * (T * J * (T * J)) = n * (T * T) * (J * J) by ac_rfl]
  exact h
theorem hi_step (q : Rat) (p j : Nat) : hi q (p + j) ≤ hi q p * 10 ^ j := by
  refine hi_min ?_
  have h := Nat.mul_le_mul_right (10 ^ j * 10 ^ j) (hi_ge q p)
  rw [Nat.pow_add]
  generalize 10 ^ j = J at *
  generalize 10 ^ p = T at *
  generalize hi q p = l at *
  generalize q.den = d at *
  generalize q.num.natAbs = n at *
  rw [show l * J * (l * J) * d = l * l * d * (J * J) by ac_rfl, show n * (T * J * (T * J)) = n * (T * T) * (J * J) by ac_rfl]
  exact h
theorem RL_step (q : Rat) (p j : Nat) : RL q p ≤ RL q (p + j) := by
  refine (leS (tenS (p + j)) (mkS _ p j) (mkS _ (p + j) 0)).2 ?_
  have := lo_step q p j
  rw [show ((10 ^ 0 : Nat) : Int) = 1 from rfl, Int.mul_one, ← Int.natCast_mul]
  exact Int.ofNat_le.2 this
theorem RH_step (q : Rat) (p j : Nat) : RH q (p + j) ≤ RH q p := by
  refine (leS (tenS (p + j)) (mkS _ (p + j) 0) (mkS _ p j)).2 ?_
  have := hi_step q p j
  rw [show ((10 ^ 0 : Nat) : Int) = 1 from rfl, Int.mul_one, ← Int.natCast_mul]
  exact Int.ofNat_le.2 this
theorem mk_T (n p : Nat) : mkRat ((n * 10 ^ p : Nat) : Int) (10 ^ p) = ((n : Int) : Rat) := by
  have h2 := Rat.ne_of_gt (tenS p)
  have h3 : (((n * 10 ^ p : Nat) : Int) : Rat) = ((n : Nat) : Rat) * ((10 ^ p : Nat) : Rat) := Rat.natCast_mul _ _
  have h4 : ((n : Int) : Rat) = (n : Rat) := rfl
  rw [mk_div, h3, h4]
  generalize ((10 ^ p : Nat) : Rat) = T at *
  generalize ((n : Nat) : Rat) = N at *
  grind
theorem sq_bounds (n p : Nat) : RL (((n : Int) * (n : Int) : Int) : Rat) p = ((n : Int) : Rat) ∧ RH (((n : Int) * (n : Int) : Int) : Rat) p = ((n : Int) : Rat) := by
  have en : ((((n : Int) * (n : Int) : Int) : Rat)).num.natAbs = n * n := by rw [num_int, ← Int.natCast_mul, Int.natAbs_natCast]
  have e : n * n * (10 ^ p * 10 ^ p) = n * 10 ^ p * (n * 10 ^ p) := by ac_rfl
  have u : uQ (((n : Int) * (n : Int) : Int) : Rat) p = n * 10 ^ p * (n * 10 ^ p) := by unfold uQ; rw [en, den_int, Nat.div_one, e]
  have v : uR (((n : Int) * (n : Int) : Int) : Rat) p = 0 := by unfold uR; rw [den_int, Nat.mod_one]
  have hl : lo (((n : Int) * (n : Int) : Int) : Rat) p = n * 10 ^ p := by unfold lo; rw [u]; exact rt_sq _
  have hh : hi (((n : Int) * (n : Int) : Int) : Rat) p = n * 10 ^ p := by unfold hi; rw [hl, u, v, if_pos ⟨rfl, rfl⟩]
  constructor
  · unfold RL; rw [hl]; exact mk_T n p
  · unfold RH; rw [hh]; exact mk_T n p
theorem tmod10 {v : Int} (h : (Lit.int .u8 v).wf = true) : ∃ p : Nat, p < 10 ∧ Int.tmod (wrap64 v) 10 = (p : Int) := by
  have b := bounds_u8 h
  refine ⟨(v % 10).toNat, by omega, ?_⟩
  rw [w64 (by omega) (by omega), Int.tmod_eq_emod_of_nonneg (by omega)]
  omega
end Go.Proofs.YtjgmmaeafodpmaaGreatDoor.Lib

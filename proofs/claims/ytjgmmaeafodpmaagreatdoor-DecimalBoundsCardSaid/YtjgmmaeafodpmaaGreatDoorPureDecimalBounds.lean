/- A number lies between its texts downwards and upwards, which are one place's step apart if they are not the number; the nearest text is one of both and half a step off at most. -/
import Derived.Test.YtjgmmaeafodpmaaGreatDoorMm
import Derived.Test.YtjgmmaeafodpmaaGreatDoorPxlawDecimalBounds
set_option linter.unusedVariables false
set_option linter.unusedSimpArgs false
namespace Go.Proofs.YtjgmmaeafodpmaaGreatDoor.Pure
open Go.RowKit Go.Proofs.YtjgmmaeafodpmaaGreatDoor.P Go.Proofs.YtjgmmaeafodpmaaGreatDoorW.PrintWords Go.Proofs.YtjgmmaeafodpmaaGreatDoorW.PrintMore Go.Proofs.YtjgmmaeafodpmaaGreatDoor.Lib
theorem le_scale {x y s : Rat} (hs : 0 < s) {u w : Int} (hx : x * s = u) (hy : y * s = w) : x ≤ y ↔ u ≤ w := by
  constructor
  · intro h
    have := Rat.mul_le_mul_of_nonneg_right h (Rat.le_of_lt hs)
    rw [hx, hy] at this
    exact Rat.intCast_le_intCast.1 this
  · intro h
    refine Rat.le_of_mul_le_mul_right (c := s) ?_ hs
    rw [hx, hy]
    exact Rat.intCast_le_intCast.2 h
theorem eq_scale {x y s : Rat} (hs : 0 < s) {u w : Int} (hx : x * s = u) (hy : y * s = w) : x = y ↔ u = w := by
  constructor
  · intro h
    rw [h, hy] at hx
    exact (Rat.intCast_inj.1 hx).symm
  · intro h
    exact Rat.le_antisymm ((le_scale hs hx hy).2 (by omega)) ((le_scale hs hy hx).2 (by omega))
variable {q r : Rat} {p : Nat}
/-- What numbers are multiplied by. -/
def sc (q : Rat) (p : Nat) : Rat := ((10 ^ p : Nat) : Rat) * (q.den : Rat)
theorem sc_pos (q : Rat) (p : Nat) : 0 < sc q p := Rat.mul_pos (Rat.natCast_pos.2 (Nat.pos_of_ne_zero (ten_ne p))) (Rat.natCast_pos.2 (Nat.pos_of_ne_zero q.den_nz))
theorem sc_q (q : Rat) (p : Nat) : q * sc q p = ((fl q p * q.den + fr q p : Int) : Rat) := by
  have hd : (0 : Rat) < (q.den : Rat) := Rat.natCast_pos.2 (Nat.pos_of_ne_zero q.den_nz)
  have hq : q * (q.den : Rat) = (q.num : Rat) := by
    have h1 : q = (q.num : Rat) / (q.den : Rat) := (Rat.mkRat_self q).symm.trans (mk_div _ _)
    have h2 := Rat.ne_of_gt hd
    generalize (q.den : Rat) = D at *
    generalize (q.num : Rat) = M at *
    rw [h1]; grind
  rw [← fl_fr, Rat.intCast_mul]
  unfold sc
  have h3 : (((10 ^ p : Nat) : Int) : Rat) = ((10 ^ p : Nat) : Rat) := rfl
  rw [h3]
  grind
theorem sc_mk (q : Rat) (p : Nat) (z : Int) : mkRat z (10 ^ p) * sc q p = ((z * q.den : Int) : Rat) := by
  have hT : (0 : Rat) < ((10 ^ p : Nat) : Rat) := Rat.natCast_pos.2 (Nat.pos_of_ne_zero (ten_ne p))
  have h2 := Rat.ne_of_gt hT
  rw [mk_div, Rat.intCast_mul]
  unfold sc
  have h3 : (((q.den : Nat) : Int) : Rat) = (q.den : Rat) := rfl
  rw [h3]
  generalize ((10 ^ p : Nat) : Rat) = T at *
  grind
theorem sub_mul' (a b c : Rat) : (a - b) * c = a * c - b * c := by grind
theorem of_scale {y : Rat} {z : Int} (h : y * sc q p = z) : y = mkRat z (10 ^ p * q.den) := by
  have := Rat.ne_of_gt (sc_pos q p)
  rw [mk_div, Rat.natCast_mul, ← h]
  unfold sc at this ⊢
  generalize ((10 ^ p : Nat) : Rat) * (q.den : Rat) = Z at *
  grind
theorem qSub_to (h : Qs q) (k : Qs r) {g : Rat} (e : q - r = g) (hg : Qs g) : Ev (fun n => rat_Sub.f n (cz q.num).1 (cz q.num).2 (L q.den) (cz r.num).1 (cz r.num).2 (L r.den)) ((cz g.num).1, (cz g.num).2, L g.den, 0) := by
  unfold rat_Sub.f
  refine Ev.bind (qNeg_to k) (Ev.bind (qAdd_to h (Qs_neg k) (s := g) (by rw [← e, Rat.sub_eq_add_neg])) ?_)
  rw [qr_yes hg]
  exact Ev.now _
theorem near_one (q : Rat) (p : Nat) : nr q p = fl q p ∨ nr q p = ce q p := by
  unfold nr; split
  · exact .inr rfl
  · exact .inl rfl
theorem near_half (q : Rat) (p : Nat) : 2 * (fl q p * q.den + fr q p - nr q p * q.den) ≤ q.den ∧ -(2 * (fl q p * q.den + fr q p - nr q p * q.den)) ≤ q.den := by
  have hr := fr_range q p
  have hs : (2 * fr q p < q.den ∧ side q p = -1) ∨ (2 * fr q p = q.den ∧ side q p = 0) ∨ ((q.den : Int) < 2 * fr q p ∧ side q p = 1) := cmpZ_cases _ _
  have hc : ce q p * (q.den : Int) = if fr q p = 0 then fl q p * q.den else fl q p * q.den + q.den := by
    unfold ce
    split
    · rfl
    · rw [Int.add_mul, Int.one_mul]
  unfold nr
  split
  · rename_i h
    rw [hc]
    generalize fl q p * (q.den : Int) = A
    split <;> omega
  · rename_i h
    generalize fl q p * (q.den : Int) = A
    omega
theorem DecimalBounds : steelyardlaw10_DecimalBounds.Pure := by
  intro x a b v _ la wa _ lb wb hv
  apply Ev.rounds
  have jt : Ev (fun k => steelyardlaw10_DecimalBounds.j0 k v true x a b) true := Ev.succ (by simp only [steelyardlaw10_DecimalBounds.j0]; exact Ev.ifp trivial (Ev.bind wakes10 (Ev.now _)))
  obtain ⟨p, hp, hpe⟩ := tmod20 hv
  unfold steelyardlaw10_DecimalBounds.f
  rcases good20 (x := x) wa wb la lb with hg | ⟨hg, q, hq, rfl, rfl, rfl⟩
  · exact Ev.bind hg (Ev.ifn (by decide) jt)
  refine Ev.bind hg (Ev.ifp rfl ?_)
  by_cases l1 : ((cz q.num).2.length : Int) > 20
  · exact Ev.ifp l1 jt
  refine Ev.ifn l1 ?_
  by_cases l2 : ((L q.den).length : Int) > 20
  · rw [decide_eq_true l2]; exact jt
  rw [decide_eq_false l2]
  obtain ⟨h1, h2⟩ := len20 hq l1 l2
  have hp60 : p ≤ 60 := by omega
  obtain ⟨f1, f2, f3⟩ := fl_ltm (p := p) h1 (by omega) hp60
  have n1 := numq_to (z := fl q p) (lt_up f1 (by omega)) hp60
  have n2 := numq_to (z := ce q p) (lt_up f2 (by omega)) hp60
  have n3 := numq_to (z := nr q p) (lt_up f3 (by omega)) hp60
  have q1 := Qs_ten (z := fl q p) (lt_up f1 (by omega)) hp60
  have q2 := Qs_ten (z := ce q p) (lt_up f2 (by omega)) hp60
  have q3 := Qs_ten (z := nr q p) (lt_up f3 (by omega)) hp60
  have q4 := Qs_ten (z := 1) (p := p) (one_lt_Bp (by omega)) hp60
  have hs := sc_pos q p
  have eq0 := sc_q q p
  have e1 := sc_mk q p (fl q p)
  have e2 := sc_mk q p (ce q p)
  have e3 := sc_mk q p (nr q p)
  have e4 := sc_mk q p 1
  have hr := fr_range q p
  have hd := den_pos' q
  have hdiff := near_half q p
  have hnear := near_one q p
  have hc : ce q p * (q.den : Int) = if fr q p = 0 then fl q p * q.den else fl q p * q.den + q.den := by
    unfold ce
    split
    · rfl
    · rw [Int.add_mul, Int.one_mul]
  -- the gap
  have gq' : Qs (mkRat (ce q p) (10 ^ p) - mkRat (fl q p) (10 ^ p)) ∧ (fr q p = 0 → mkRat (ce q p) (10 ^ p) - mkRat (fl q p) (10 ^ p) = 0) ∧ (fr q p ≠ 0 → mkRat (ce q p) (10 ^ p) - mkRat (fl q p) (10 ^ p) = mkRat 1 (10 ^ p)) := by
    have hgap : (mkRat (ce q p) (10 ^ p) - mkRat (fl q p) (10 ^ p)) * sc q p = ((ce q p * q.den - fl q p * q.den : Int) : Rat) := by
      rw [sub_mul', e1, e2, Rat.intCast_sub]
    have z0 : (0 : Rat) * sc q p = ((0 : Int) : Rat) := Rat.zero_mul _
    have a1 : fr q p = 0 → mkRat (ce q p) (10 ^ p) - mkRat (fl q p) (10 ^ p) = 0 := fun e => (eq_scale hs hgap z0).2 (by rw [hc, if_pos e]; omega)
    have a2 : fr q p ≠ 0 → mkRat (ce q p) (10 ^ p) - mkRat (fl q p) (10 ^ p) = mkRat 1 (10 ^ p) := fun e => (eq_scale hs hgap e4).2 (by rw [hc, if_neg e]; omega)
    refine ⟨?_, a1, a2⟩
    by_cases e : fr q p = 0
    · rw [a1 e]; exact ⟨one_lt_Bp (m := 64) (by omega) |> fun h => Nat.lt_trans (by decide) h, one_lt_Bp (by omega)⟩
    · rw [a2 e]; exact q4
  obtain ⟨qg, g0, g1⟩ := gq'
  generalize hG : mkRat (ce q p) (10 ^ p) - mkRat (fl q p) (10 ^ p) = G at *
  -- twice the way to the nearest one
  have hdd : (q - mkRat (nr q p) (10 ^ p)) * sc q p = ((fl q p * q.den + fr q p - nr q p * q.den : Int) : Rat) := by
    rw [sub_mul', eq0, e3, Rat.intCast_sub]
  have dm := of_scale hdd
  have dsm : (fl q p * q.den + fr q p - nr q p * q.den).natAbs < Bp 21 := by
    refine Nat.lt_of_le_of_lt (m := q.den) (by omega) (lt_up h2 (by omega))
  have dden : 10 ^ p * q.den < Bp 30 := lt_mul (ten_Bp (m := 8) (j := p) (by omega)) h2 (by omega)
  have dd0 : 10 ^ p * q.den ≠ 0 := Nat.mul_ne_zero (ten_ne p) q.den_nz
  have qd : Qs (q - mkRat (nr q p) (10 ^ p)) := by rw [dm]; exact Qs_mk dd0 (lt_up dsm (by omega)) (lt_up dden (by omega))
  have hdd2 : ((q - mkRat (nr q p) (10 ^ p)) + (q - mkRat (nr q p) (10 ^ p))) * sc q p = ((2 * (fl q p * q.den + fr q p - nr q p * q.den) : Int) : Rat) := by
    rw [Rat.add_mul, hdd, ← Rat.intCast_add]
    congr 1; omega
  have dm2 := of_scale hdd2
  have qd2 : Qs ((q - mkRat (nr q p) (10 ^ p)) + (q - mkRat (nr q p) (10 ^ p))) := by
    rw [dm2]; exact Qs_mk dd0 (Nat.lt_of_le_of_lt (m := q.den) (by omega) (lt_up h2 (by omega))) (lt_up dden (by omega))
  have t1 : cmpQ ((q - mkRat (nr q p) (10 ^ p)) + (q - mkRat (nr q p) (10 ^ p))) (mkRat 1 (10 ^ p)) ≤ 0 := cmpQ_le ((le_scale hs hdd2 e4).2 (by omega))
  have t2 : cmpQ (-((q - mkRat (nr q p) (10 ^ p)) + (q - mkRat (nr q p) (10 ^ p)))) (mkRat 1 (10 ^ p)) ≤ 0 := cmpQ_le ((le_scale hs (u := -(2 * (fl q p * q.den + fr q p - nr q p * q.den))) (by rw [Rat.neg_mul, hdd2, Rat.intCast_neg]) e4).2 (by omega))
  have j3 : Ev (fun k => steelyardlaw10_DecimalBounds.j3 k false (cz q.num).1 (cz q.num).2 (L q.den) (cz (mkRat (nr q p) (10 ^ p)).num).1 (cz (mkRat (nr q p) (10 ^ p)).num).2 (L (mkRat (nr q p) (10 ^ p)).den) (cz (mkRat 1 (10 ^ p)).num).1 (cz (mkRat 1 (10 ^ p)).num).2 (L (mkRat 1 (10 ^ p)).den)) true := by
    refine Ev.succ ?_
    simp only [steelyardlaw10_DecimalBounds.j3]
    refine Ev.ifn (by decide) (Ev.bind (qSub_to hq q3 rfl qd) ?_)
    refine Ev.bind (qAdd_to qd qd rfl) ?_
    rw [qr_yes qd2]
    refine Ev.ifp rfl (Ev.ifp rfl (Ev.bind (qCmp_to qd2 q4) (Ev.ifp t1 (Ev.bind (qNeg_to qd2) (Ev.bind (qCmp_to (Qs_neg qd2) q4) (Ev.ifp t2 (Ev.bind wakes10 (Ev.now _))))))))
  -- the nearest text is one of both
  have jn : Ev (fun k => if (PT (nr q p) p).toList = (PT (fl q p) p).toList then steelyardlaw10_DecimalBounds.j3 k false (cz q.num).1 (cz q.num).2 (L q.den) (cz (mkRat (nr q p) (10 ^ p)).num).1 (cz (mkRat (nr q p) (10 ^ p)).num).2 (L (mkRat (nr q p) (10 ^ p)).den) (cz (mkRat 1 (10 ^ p)).num).1 (cz (mkRat 1 (10 ^ p)).num).2 (L (mkRat 1 (10 ^ p)).den)
      else steelyardlaw10_DecimalBounds.j3 k ((PT (nr q p) p).toList != (PT (ce q p) p).toList) (cz q.num).1 (cz q.num).2 (L q.den) (cz (mkRat (nr q p) (10 ^ p)).num).1 (cz (mkRat (nr q p) (10 ^ p)).num).2 (L (mkRat (nr q p) (10 ^ p)).den) (cz (mkRat 1 (10 ^ p)).num).1 (cz (mkRat 1 (10 ^ p)).num).2 (L (mkRat 1 (10 ^ p)).den)) true := by
    rcases hnear with e | e
    · exact Ev.ifp (by rw [e]) j3
    · by_cases c : (PT (nr q p) p).toList = (PT (fl q p) p).toList
      · exact Ev.ifp c j3
      · refine Ev.ifn c ?_
        have e' : ((PT (nr q p) p).toList != (PT (ce q p) p).toList) = false := by rw [e]; exact bne_self_eq_false _
        rw [e']
        exact j3
  have c1 : cmpQ (mkRat (fl q p) (10 ^ p)) q ≤ 0 := cmpQ_le ((le_scale hs e1 eq0).2 (by omega))
  have c2 : 0 ≤ cmpQ (mkRat (ce q p) (10 ^ p)) q := cmpQ_ge ((le_scale hs eq0 e2).2 (by rw [hc]; split <;> omega))
  have c3 : cmpQ (mkRat (fl q p) (10 ^ p)) q = 0 ↔ fr q p = 0 := (cmpQ_zero _ _).trans ((eq_scale hs e1 eq0).trans (by omega))
  have z0 : (0 : Rat) * sc q p = ((0 : Int) : Rat) := Rat.zero_mul _
  have c4 : cmpQ G 0 = 0 ↔ fr q p = 0 := (cmpQ_zero _ _).trans ⟨fun e => by
    by_cases c : fr q p = 0
    · exact c
    · rw [g1 c] at e
      have := (eq_scale hs e4 z0).1 e
      omega, g0⟩
  have flag : ((cmpQ G 0 == 0) != (cmpQ (mkRat (fl q p) (10 ^ p)) q == 0)) = false := by
    have e : (cmpQ G 0 == 0) = (cmpQ (mkRat (fl q p) (10 ^ p)) q == 0) := by
      rw [Bool.eq_iff_iff, beq_iff_eq, beq_iff_eq, c3, c4]
    rw [e]; exact bne_self_eq_false _
  have j2 : Ev (fun k => steelyardlaw10_DecimalBounds.j2 k (p : Int) (PT (fl q p) p) (PT (ce q p) p) (PT (nr q p) p) false (cz q.num).1 (cz q.num).2 (L q.den) (cz (mkRat (fl q p) (10 ^ p)).num).1 (cz (mkRat (fl q p) (10 ^ p)).num).2 (L (mkRat (fl q p) (10 ^ p)).den) (cz (mkRat (ce q p) (10 ^ p)).num).1 (cz (mkRat (ce q p) (10 ^ p)).num).2 (L (mkRat (ce q p) (10 ^ p)).den) (cz (mkRat (nr q p) (10 ^ p)).num).1 (cz (mkRat (nr q p) (10 ^ p)).num).2 (L (mkRat (nr q p) (10 ^ p)).den)) true := by
    refine Ev.succ ?_
    simp only [steelyardlaw10_DecimalBounds.j2]
    refine Ev.ifn (by decide) (Ev.bind (qSub_to q2 q1 hG qg) (Ev.bind (Ten_to (by omega)) (Ev.bind (wOf_to (v := 1) (by omega) (by omega)) ?_)))
    refine Ev.bind (qOf_to (m := 9) (S_cz (z := 1) (one_lt_Bp (by omega))) (S_L (ten_Bp (m := 8) (j := p) (by omega))) (by omega) (by rw [V_L]; exact ten_ne p) (q := mkRat 1 (10 ^ p)) (by rw [vz_cz, V_L])) ?_
    rw [qr_yes q4]
    refine Ev.ifp rfl (Ev.ifp rfl (Ev.ifp rfl (Ev.bind (qCmp_to q1 hq) (Ev.ifn (by omega) (Ev.bind (qCmp_to q2 hq) (Ev.ifn (by omega) (Ev.bind (qSign_to qg) ?_)))))))
    by_cases c : fr q p = 0
    · refine Ev.ifp (c4.2 c) (Ev.bind (qSign_to qg) (Ev.bind (qCmp_to q1 hq) ?_))
      rw [flag]
      exact Ev.ifn (by decide) jn
    · refine Ev.ifn (fun e => c (c4.1 e)) (Ev.bind (keepQ_to qg (g1 c)) (Ev.ifp rfl (Ev.bind (qSign_to qg) (Ev.bind (qCmp_to q1 hq) ?_))))
      rw [flag]
      exact Ev.ifn (by decide) jn
  refine Ev.succ ?_
  simp only [steelyardlaw10_DecimalBounds.j0]
  rw [hpe]
  refine Ev.ifn (by decide) (Ev.bind (Down_to hq hp60) (Ev.bind (Up_to' hq hp60) (Ev.bind (Near_to hq hp60) (Ev.ifp rfl (Ev.ifp rfl ?_)))))
  refine Ev.succ ?_
  simp only [steelyardlaw10_DecimalBounds.j1]
  exact Ev.ifn (by decide) (Ev.bind n1 (Ev.bind n2 (Ev.bind n3 (Ev.ifp rfl (Ev.ifp rfl j2)))))
end Go.Proofs.YtjgmmaeafodpmaaGreatDoor.Pure

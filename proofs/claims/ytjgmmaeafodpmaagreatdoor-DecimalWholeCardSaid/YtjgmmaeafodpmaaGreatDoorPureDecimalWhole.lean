/- A whole number with places is its text, a point and noughts; a text of one more place goes on where the shorter one stops. -/
import Derived.Test.YtjgmmaeafodpmaaGreatDoorMm
import Derived.Test.YtjgmmaeafodpmaaGreatDoorPxlawDecimalWhole
set_option linter.unusedVariables false
set_option linter.unusedSimpArgs false
namespace Go.Proofs.YtjgmmaeafodpmaaGreatDoor.Pure
open Go.RowKit Go.Proofs.YtjgmmaeafodpmaaGreatDoor.P Go.Proofs.YtjgmmaeafodpmaaGreatDoorW.PrintWords Go.Proofs.YtjgmmaeafodpmaaGreatDoorW.PrintMore Go.Proofs.YtjgmmaeafodpmaaGreatDoor.Lib
theorem pad_abs (z : Int) (p : Nat) : pad z p = pad (z.natAbs : Int) p := by unfold pad; rw [Int.natAbs_natCast]
theorem pad_step {f d p : Nat} (hd : d < 10) : pad ((10 * f + d : Nat) : Int) (p + 1) = pad (f : Int) p ++ [((48 + d : Nat) : Int)] := by
  unfold pad
  rw [Int.natAbs_natCast, Int.natAbs_natCast]
  by_cases h : f = 0
  · subst h
    rw [Nat.mul_zero, Nat.zero_add, tx_digit hd, tx_digit (n := 0) (by omega)]
    have e1 : p + 1 + 1 - [((48 + d : Nat) : Int)].length = p + 1 := rfl
    have e2 : p + 1 - [((48 + 0 : Nat) : Int)].length = p := rfl
    rw [e1, e2, List.replicate_succ']; rfl
  · have e : tx (10 * f + d) = tx f ++ [((48 + d : Nat) : Int)] := by
      rw [tx_snoc (by omega), show (10 * f + d) / 10 = f by omega, show (10 * f + d) % 10 = d by omega]
    rw [e, List.length_append, List.length_singleton, show p + 1 + 1 - ((tx f).length + 1) = p + 1 - (tx f).length by omega, List.append_assoc]
theorem pad_ten (n : Nat) : ∀ p : Nat, pad ((n * 10 ^ p : Nat) : Int) p = tx n ++ List.replicate p 48
  | 0 => by
    unfold pad
    have := tx_pos n
    rw [Nat.pow_zero, Nat.mul_one, Int.natAbs_natCast, show 0 + 1 - (tx n).length = 0 by omega]
    simp
  | p + 1 => by
    rw [show n * 10 ^ (p + 1) = 10 * (n * 10 ^ p) + 0 by rw [Nat.pow_succ, ← Nat.mul_assoc]; omega, pad_step (by omega), pad_ten n p, List.append_assoc, List.replicate_succ']; rfl
theorem fl_int (n : Int) (p : Nat) : fl (n : Rat) p = n * (10 ^ p : Nat) ∧ fr (n : Rat) p = 0 :=
  fl_uniq (by rw [num_int, den_int, Int.natCast_one, Int.mul_one, Int.add_zero]) (by omega) (by rw [den_int]; decide)
theorem pt_int (n : Int) (p : Nat) : pt (n * (10 ^ p : Nat)) p = ns (TZ n) ++ (if p = 0 then [] else 46 :: List.replicate p 48) := by
  have hp : (0 : Int) < ((10 ^ p : Nat) : Int) := Int.ofNat_lt.2 (Nat.pos_of_ne_zero (ten_ne p))
  have ha : (n * (10 ^ p : Nat)).natAbs = n.natAbs * 10 ^ p := by rw [Int.natAbs_mul, Int.natAbs_natCast]
  have e : ptl (n * (10 ^ p : Nat)) p = tx n.natAbs ++ (if p = 0 then [] else 46 :: List.replicate p 48) := by
    unfold ptl
    rw [pad_abs, ha, pad_ten, List.length_append, List.length_replicate, Nat.add_sub_cancel, List.take_left, List.drop_left]
  unfold pt
  rw [e, ns_TZ]
  by_cases c : n < 0
  · rw [if_pos (Int.mul_neg_of_neg_of_pos c hp), if_pos c]; rfl
  · rw [if_neg (Int.not_lt.2 (Int.mul_nonneg (by omega) (Int.natCast_nonneg _))), if_neg c]
theorem fl_step {q : Rat} (p : Nat) : ∃ d : Nat, d < 10 ∧ fl q (p + 1) = 10 * fl q p + d := by
  have h := fl_fr q p
  have hr := fr_range q p
  have hd := den_pos' q
  have d0 : 0 ≤ 10 * fr q p / (q.den : Int) := Int.ediv_nonneg (by omega) (by omega)
  have d1 : 10 * fr q p / (q.den : Int) < 10 := Int.ediv_lt_of_lt_mul hd (by omega)
  have dm := Int.mul_ediv_add_emod (10 * fr q p) q.den
  have m0 := Int.emod_nonneg (10 * fr q p) (show (q.den : Int) ≠ 0 by omega)
  have m1 := Int.emod_lt_of_pos (10 * fr q p) hd
  refine ⟨(10 * fr q p / (q.den : Int)).toNat, by omega, ?_⟩
  rw [Int.toNat_of_nonneg d0]
  refine (fl_uniq (w := 10 * fr q p % q.den) ?_ m0 m1).1
  have e : ((10 ^ (p + 1) : Nat) : Int) = ((10 ^ p : Nat) : Int) * 10 := by rw [Nat.pow_succ]; exact Int.natCast_mul _ _
  rw [e, ← Int.mul_assoc, h, Int.add_mul, Int.add_mul]
  rw [Int.mul_comm (q.den : Int)] at dm
  have e2 : fl q p * (q.den : Int) * 10 = 10 * fl q p * q.den := by rw [Int.mul_comm _ 10, Int.mul_assoc]
  omega
theorem pt_step {f : Int} {d p : Nat} (hf : 0 ≤ f) (hd : d < 10) (hp : p ≠ 0) : pt (10 * f + d) (p + 1) = pt f p ++ [((48 + d : Nat) : Int)] := by
  obtain ⟨g, rfl⟩ := Int.eq_ofNat_of_zero_le hf
  have e : (10 * (g : Int) + (d : Int)) = ((10 * g + d : Nat) : Int) := by omega
  have hl := pad_len (g : Int) p
  unfold pt
  rw [if_neg (by omega), if_neg (by omega), e]
  unfold ptl
  rw [pad_step hd, if_neg hp, if_neg (by omega), List.length_append, List.length_singleton, show (pad (g : Int) p).length + 1 - (p + 1) = (pad (g : Int) p).length - p by omega,
    List.take_append_of_le_length (by omega), List.drop_append_of_le_length (by omega), List.append_assoc]; rfl
theorem DecimalWhole : steelyardlaw10_DecimalWhole.Pure := by
  intro n x a b v hn _ la wa _ lb wb hv
  apply Ev.rounds
  have bn := bounds_i32 hn
  have jt : Ev (fun k => steelyardlaw10_DecimalWhole.j0 k n v true x a b) true := Ev.succ (by simp only [steelyardlaw10_DecimalWhole.j0]; exact Ev.ifp trivial (Ev.bind wakes10 (Ev.now _)))
  obtain ⟨p, hp, hpe⟩ := tmod20 hv
  unfold steelyardlaw10_DecimalWhole.f
  rcases good20 (x := x) wa wb la lb with hg | ⟨hg, q, hq, rfl, rfl, rfl⟩
  · exact Ev.bind hg (Ev.ifn (by decide) jt)
  refine Ev.bind hg (Ev.ifp rfl ?_)
  by_cases l1 : ((cz q.num).2.length : Int) > 20
  · exact Ev.ifp l1 jt
  refine Ev.ifn l1 ?_
  by_cases l2 : ((L q.den).length : Int) > 20
  · rw [decide_eq_true l2]; exact jt
  rw [decide_eq_false l2]
  obtain ⟨h1, h2⟩ := len20 hq l1 l2
  have hp60 : p ≤ 60 := by omega
  obtain ⟨f1, _, _⟩ := fl_ltm (p := p) h1 (by omega) hp60
  have hqn : Qs ((n : Int) : Rat) := Qs_int (by omega)
  have wn : wrap64 n = n := w64 (by omega) (by omega)
  -- the last part
  have j4t : Ev (fun k => steelyardlaw10_DecimalWhole.j4 k (p : Int) true (cz q.num).1 (cz q.num).2 (L q.den)) true := Ev.succ (by simp only [steelyardlaw10_DecimalWhole.j4]; exact Ev.ifp trivial (Ev.bind wakes10 (Ev.now _)))
  have j3 : Ev (fun k => steelyardlaw10_DecimalWhole.j3 k (p : Int) false (cz q.num).1 (cz q.num).2 (L q.den)) true := by
    refine Ev.succ ?_
    simp only [steelyardlaw10_DecimalWhole.j3]
    refine Ev.ifn (by decide) (Ev.bind (qSign_to hq) ?_)
    rw [cmpQ_0]
    by_cases c : q.num < 0
    · exact Ev.ifp (by rw [cmpZ_lt c]; decide) j4t
    · refine Ev.ifn (by rcases cmpZ_cases q.num 0 with ⟨h', e⟩ | ⟨h', e⟩ | ⟨h', e⟩ <;> omega) ?_
      by_cases c0 : p = 0
      · have e : ((p : Int) == 0) = true := beq_iff_eq.2 (by omega)
        rw [e]; exact j4t
      · have e : ((p : Int) == 0) = false := beq_eq_false_iff_ne.2 (by omega)
        rw [e]
        refine Ev.succ ?_
        simp only [steelyardlaw10_DecimalWhole.j4]
        rw [w64_succ (by omega)]
        refine Ev.ifn (by decide) (Ev.bind (Down_to hq hp60) (Ev.bind (Down_to hq (p := p + 1) (by omega)) (Ev.ifp rfl (Ev.ifp rfl ?_))))
        obtain ⟨d, hd, hfe⟩ := fl_step (q := q) p
        have f0 : 0 ≤ fl q p := Int.ediv_nonneg (Int.mul_nonneg (by omega) (Int.natCast_nonneg _)) (by omega)
        have hps := pt_step f0 hd c0
        rw [← hfe] at hps
        have s1 := size_ns (ns_PT (fl q p) p)
        have s2 := size_ns (ns_PT (fl q (p + 1)) (p + 1))
        rw [hps, List.length_append, List.length_singleton] at s2
        have hx := tx_Bp f1 (by omega)
        have hlp := pad_len (fl q p) p
        have hlt : (pt (fl q p) p).length ≤ 1000 := by
          unfold pt
          rw [if_neg (by omega)]
          unfold ptl
          rw [if_neg c0, List.length_append, List.length_take, List.length_cons, List.length_drop]
          omega
        dsimp only
        rw [w64_succ (by omega), Int.toNat_natCast]
        refine Ev.ifp (by omega) (Ev.ifp (by omega) (Ev.ifp (by omega) (Ev.ifp ?_ (Ev.bind wakes10 (Ev.now _)))))
        rw [ns_eq_iff, ns_extract, List.drop_zero, ns_PT, ns_PT, hps, Nat.sub_zero, s1, List.take_left]
  have j2 : ∀ s : ByteArray, ns s = pt (n * (10 ^ p : Nat)) p → Ev (fun k => steelyardlaw10_DecimalWhole.j2 k n (p : Int) s (cz q.num).1 (cz q.num).2 (L q.den)) true := fun s hs => by
    have e : PT (n * (10 ^ p : Nat)) p = s := ns_inj (by rw [ns_PT, hs])
    have d1 := Down_to hqn hp60
    have d2 := Up_to' hqn hp60
    have ec : ce (n : Rat) p = fl (n : Rat) p := by unfold ce; rw [if_pos (fl_int n p).2]
    rw [(fl_int n p).1, e] at d1
    rw [ec, (fl_int n p).1, e] at d2
    refine Ev.succ ?_
    simp only [steelyardlaw10_DecimalWhole.j2]
    rw [wn]
    have w := qWhole_to (v := n) (by omega) (by omega)
    refine Ev.bind w (Ev.bind d1 (Ev.bind w (Ev.bind d2 (Ev.ifp rfl (Ev.ifp rfl (Ev.ifp rfl ?_))))))
    rw [bne_self_eq_false]
    exact j3
  have loop : ∀ (e i : Nat) (zs : ByteArray), i + e = p → ns zs = List.replicate i 48 → Ev (fun k => steelyardlaw10_DecimalWhole.l0 k n (p : Int) zs (i : Int) (cz q.num).1 (cz q.num).2 (L q.den)) true := by
    intro e
    induction e with
    | zero =>
      intro i zs hi hz
      rw [Nat.add_zero] at hi
      subst hi
      have hzs := size_ns hz
      rw [List.length_replicate] at hzs
      have st := TZ_size (z := n) (m := 3) (lt_num (by omega) (by omega)) (by omega)
      refine Ev.succ ?_
      simp only [steelyardlaw10_DecimalWhole.l0]
      rw [wn]
      refine Ev.ifn (by omega) (Ev.bind (wOf_to (by omega) (by omega)) (Ev.bind (wText_to (m := 3) (S_cz (lt_num (by omega) (by omega))) (by omega) (z := n) (vz_cz _)) ?_))
      by_cases c0 : i = 0
      · refine Ev.ifn (by omega) (j2 _ ?_)
        rw [pt_int, if_pos c0, List.append_nil]
      · have sd : ((⟨#[46]⟩ : ByteArray) ++ zs).size = 1 + zs.size := by rw [ByteArray.size_append]; rfl
        refine Ev.ifp (by omega) (Ev.ifp (by omega) (Ev.ifp (by omega) (j2 _ ?_)))
        rw [pt_int, if_neg c0, ns_append, ns_append, hz]; rfl
    | succ e ih =>
      intro i zs hi hz
      have hzs := size_ns hz
      rw [List.length_replicate] at hzs
      refine Ev.succ ?_
      simp only [steelyardlaw10_DecimalWhole.l0]
      rw [w64_succ (by omega)]
      refine Ev.ifp (by omega) (Ev.ifp (by omega) (ih (i + 1) _ (by omega) ?_))
      rw [ns_append, hz, List.replicate_succ']; rfl
  refine Ev.succ ?_
  simp only [steelyardlaw10_DecimalWhole.j0]
  rw [hpe]
  exact Ev.ifn (by decide) (loop p 0 _ (Nat.zero_add _) rfl)
end Go.Proofs.YtjgmmaeafodpmaaGreatDoor.Pure

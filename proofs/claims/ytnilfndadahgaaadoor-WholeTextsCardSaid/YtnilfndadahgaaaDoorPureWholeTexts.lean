/- Two whole numbers of at most 60 limbs have one text just if they are one; texts of what is below 0 begin with a sign, the others with a digit. -/
import Derived.Test.YtnilfndadahgaaaDoorMl
import Derived.Test.YtnilfndadahgaaaDoorPxlawWholeTexts
set_option linter.unusedVariables false
set_option linter.unusedSimpArgs false
namespace Go.Proofs.YtnilfndadahgaaaDoor.Pure
open Go.RowKit Go.Proofs.YtnilfndadahgaaaDoor.P Go.Proofs.YtnilfndadahgaaaDoorW.PrintWords Go.Proofs.YtnilfndadahgaaaDoorW.PrintMore Go.Proofs.YtnilfndadahgaaaDoor.Lib
theorem TZ_inj {u w : Int} (h : ns (TZ u) = ns (TZ w)) : u = w := by
  have e1 : sg (TZ u) = sg (TZ w) := by rw [sg_ns, sg_ns, h]
  have e2 : TZ u = TZ w := ns_inj h
  have e3 : tx u.natAbs = tx w.natAbs := by rw [← rs_TZ, ← rs_TZ, e2]
  have e4 : u.natAbs = w.natAbs := by rw [← pv_tx u.natAbs, e3, pv_tx]
  rw [sg_TZ, sg_TZ, decide_eq_decide] at e1
  omega
theorem dash_no {s : ByteArray} {z : Int} (hs : ns s = 45 :: ns (TZ z)) (hz : z ≤ 0) : Ev (fun k => whole_Parse.f k s) (false, [], false) := by
  have h1 : sg s = true := by rw [sg_ns, hs]; rfl
  have h2 : ns (rs s) = ns (TZ z) := by
    unfold rs
    rw [if_pos h1, ns_rest, hs]; rfl
  by_cases c : z < 0
  · have := wParse_ev (s := s) (m := 0) (R := ([], false)) (Parse_no (.inr (.inr fun hd => by
      rw [h2, ns_TZ, if_pos c] at hd
      have := hd 45 (by simp)
      omega))) S_nil (by omega)
    exact this
  · obtain rfl : z = 0 := by omega
    have e : ns (rs s) = [48] := by rw [h2, ns_TZ, if_neg (by omega)]; rfl
    have := wParse_ev (s := s) (m := 1) (R := (L 0, true)) (Parse_to (by rw [e]; decide) (by rw [e]; decide) (by rw [e]; exact (Dg_dec _).2 (by decide)) (by rw [e]; decide)) (S_L (by decide)) (by omega)
    rw [h1, L_zero] at this
    exact this
theorem WholeTexts : steelyardlaw06_WholeTexts.Pure := by
  intro x a y b _ _ ha _ _ hb
  apply Ev.rounds
  have wk : Ev (fun k => steelyardlaw06_WholeTexts.j0 k true x a y b) true := Ev.succ (by simp only [steelyardlaw06_WholeTexts.j0]; exact Ev.ifp trivial (Ev.bind wakes6 (Ev.now _)))
  unfold steelyardlaw06_WholeTexts.f
  simp only [steelyardlaw06_Long.f, Option.bind_some, decide_eq_true_eq]
  by_cases h1 : (a.length : Int) > 60
  · exact Ev.ifp h1 wk
  refine Ev.ifn h1 ?_
  by_cases h2 : (b.length : Int) > 60
  · rw [decide_eq_true h2]; exact wk
  rw [decide_eq_false h2]
  have sa : S 60 a := S_of (wf_u32 ha) h1
  have sb : S 60 b := S_of (wf_u32 hb) h2
  obtain ⟨X, hX⟩ : ∃ X, vz x a = X := ⟨_, rfl⟩
  obtain ⟨Y, hY⟩ : ∃ Y, vz y b = Y := ⟨_, rfl⟩
  have bX : X.natAbs < Bp 60 := hX ▸ S_vz x sa
  have b0 : (0 : Int).natAbs < Bp 60 := na_small (by decide) (by omega)
  have hsz : 0 < (TZ X).size := by
    rw [ns_size, ns_TZ]
    split
    · simp
    · exact tx_pos _
  have hbig : (TZ X).size ≤ 1000000 := by
    have := T_size (m := 60) (n := X.natAbs) bX (by omega)
    unfold TZ
    split
    · rw [ByteArray.size_append]; have : (⟨#[45]⟩ : ByteArray).size = 1 := rfl; omega
    · omega
  have eq0 : ((TZ X).toList == (TZ Y).toList) = (cmpZ X Y == 0) := by
    rw [Bool.eq_iff_iff, beq_iff_eq, beq_iff_eq, ns_eq_iff]
    constructor
    · intro h; rw [TZ_inj h]; exact cmpZ_eq Y
    · intro h
      rcases cmpZ_cases X Y with ⟨_, e⟩ | ⟨g, _⟩ | ⟨_, e⟩
      · omega
      · rw [g]
      · omega
  have eq1 : (bt (TZ X) 0 == 45) = decide (cmpZ X 0 < 0) := by
    have e : bt (TZ X) 0 = (ns (TZ X)).getD 0 0 := bt_ns _ 0
    have := sg_TZ X
    rw [sg_ns, ← e] at this
    rw [show (bt (TZ X) 0 == 45) = decide (bt (TZ X) 0 = 45) by rw [Bool.eq_iff_iff]; simp, this, decide_eq_decide]
    rcases cmpZ_cases X 0 with ⟨g, e⟩ | ⟨g, e⟩ | ⟨g, e⟩ <;> omega
  have j1 : Ev (fun k => steelyardlaw06_WholeTexts.j1 k (TZ X) false x a) true := by
    refine Ev.succ ?_
    simp only [steelyardlaw06_WholeTexts.j1]
    refine Ev.ifn (by decide) (Ev.ifp (by omega) ?_)
    by_cases c : 0 < X
    · have es : (⟨#[45]⟩ : ByteArray) ++ TZ X = TZ (-X) := by
        unfold TZ
        rw [if_neg (by omega), if_pos (by omega), Int.natAbs_neg]
      rw [es]
      refine Ev.bind (wParse_TZ (z := -X) (m := 60) (na_neg bX) (by omega)) (Ev.bind (wOf_to (by omega) (by omega)) (Ev.bind (wCmp_to (m := 60) (c := cmpZ X 0) sa (S_cz b0) (by omega) (by rw [hX, vz_cz])) ?_))
      rw [cmpZ_gt c]
      refine Ev.ifp (show (true == decide ((1 : Int) > 0)) = true by decide) (Ev.ifp rfl (Ev.bind (wNeg_to (z := -X) sa (by omega) (by rw [hX])) (Ev.bind (keepCz_to (m := 60) (na_neg bX) (by omega) rfl) (Ev.ifp rfl (Ev.bind wakes6 (Ev.now _))))))
    · refine Ev.bind (dash_no (z := X) (by rw [ns_append]; rfl) (by omega)) (Ev.bind (wOf_to (by omega) (by omega)) (Ev.bind (wCmp_to (m := 60) (c := cmpZ X 0) sa (S_cz b0) (by omega) (by rw [hX, vz_cz])) ?_))
      have e : ¬ cmpZ X 0 > 0 := by rcases cmpZ_cases X 0 with ⟨g, e⟩ | ⟨g, e⟩ | ⟨g, e⟩ <;> omega
      rw [decide_eq_false e]
      exact Ev.ifp (by decide) (Ev.ifn (by decide) (Ev.bind wakes6 (Ev.now _)))
  refine Ev.succ ?_
  simp only [steelyardlaw06_WholeTexts.j0]
  refine Ev.ifn (by decide) (Ev.bind (wText_to sa (by omega) hX) (Ev.bind (wText_to sb (by omega) hY) (Ev.bind (wCmp_to (c := cmpZ X Y) sa sb (by omega) (by rw [hX, hY])) ?_)))
  refine Ev.ifn (by rw [eq0]; simp) (Ev.ifn (by omega) (Ev.ifp (by omega) (Ev.bind (wOf_to (by omega) (by omega)) (Ev.bind (wCmp_to (m := 60) (c := cmpZ X 0) sa (S_cz b0) (by omega) (by rw [hX, vz_cz])) ?_))))
  rw [eq1]
  simp only [bne_self_eq_false]
  exact j1
end Go.Proofs.YtnilfndadahgaaaDoor.Pure

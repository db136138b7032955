/- What is defined is there, once, and is read in texts; what may not be is not. -/
import Derived.Test.YtpchdjdochkjpaaGreatDoorMm
import Derived.Test.YtpchdjdochkjpaaGreatDoorPxlawUnitDefines
set_option linter.unusedVariables false
set_option linter.unusedSimpArgs false
namespace Go.Proofs.YtpchdjdochkjpaaGreatDoor.Pure
open Go.RowKit Go.Proofs.YtpchdjdochkjpaaGreatDoor.P Go.Proofs.YtpchdjdochkjpaaGreatDoorW.PrintWords Go.Proofs.YtpchdjdochkjpaaGreatDoorW.PrintMore Go.Proofs.YtpchdjdochkjpaaGreatDoor.Lib
theorem Has_new {n : ByteArray} {r : Tab × Bool} (h : Ev (fun k => unit_Table_Has.f k (some T92) n) r) : Ev (fun k => unit_Table_Has.f k none n) r :=
  Ev.new (g := fun k T => unit_Table_Has.f k T n) (fun k hk => by
    show unit_Table_Has.f k none n = unit_Table_Has.f k (some T92) n
    unfold unit_Table_Has.f unit_Table_Of.f
    rw [all_new hk, all_old]) h
theorem UnitDefines : steelyardlaw12_UnitDefines.Pure := by
  intro n g m b d0 d1 d2 d3 d4 d5 d6 hn _ _ hm _ _ hb _ _ _ _ _ _ _
  generalize hu : (⟨g, m, b, ⟨d0, d1, d2, d3, d4, d5, d6⟩⟩ : Un) = u
  apply Ev.rounds
  unfold steelyardlaw12_UnitDefines.f
  have wk : Ev (fun k => (steelyardlaw12_wakes.f k).bind fun z => some z) true := Ev.bind wakes_to (Ev.now _)
  by_cases h60 : (n.size : Int) > 60
  · exact Ev.ifp h60 wk
  have hs : n.size ≤ 1000000 := by omega
  refine Ev.ifn h60 ?_
  by_cases hL : 70 < u.m.length ∨ 70 < u.b.length
  · refine Ev.bind (a := true) (Ev.const ?_) (Ev.ifp rfl wk)
    unfold steelyardlaw12_Long.f steelyardlaw07_Long.f
    by_cases h1 : (u.m.length : Int) > 70
    · rw [if_pos h1]; rfl
    · rw [if_neg h1, decide_eq_true (by omega)]; rfl
  have hlong : steelyardlaw12_Long.f u.g u.m u.b u.d.d0 u.d.d1 u.d.d2 u.d.d3 u.d.d4 u.d.d5 u.d.d6 = some false := by
    unfold steelyardlaw12_Long.f steelyardlaw07_Long.f
    rw [if_neg (by omega), decide_eq_false (by omega)]; rfl
  refine Ev.bind (Ev.const hlong) (Ev.ifn (by decide) ?_)
  have wm : S 70 u.m := by subst hu; exact S_of (wf_u32 hm) (by omega)
  have wb : S 70 u.b := by subst hu; exact S_of (wf_u32 hb) (by omega)
  -- what is there
  have had : ∃ h : Bool, Ev (fun k => unit_Table_Has.f k (some T92) n) (T92, h) ∧ ((h = true ∧ ∃ q d, tget n T92 = some (cu q d) ∧ Gu q d) ∨ (h = false ∧ tget n T92 = none)) := by
    cases e : tget n T92 with
    | none => exact ⟨false, Has_no e, .inr ⟨rfl, rfl⟩⟩
    | some v =>
      obtain ⟨q, d, rfl, g⟩ := Tk_T92 n v e
      exact ⟨true, Has_yes e g, .inl ⟨rfl, q, d, rfl, g⟩⟩
  obtain ⟨h, hh, hc⟩ := had
  refine Ev.bind (Has_new hh) ?_
  have l92 : ((sortN T92).length : Int) = 92 := by rw [sortN_length, len_T92]; rfl
  by_cases hp : MayP u ∧ Nam (ns n)
  · obtain ⟨⟨q, d, rfl, gu⟩, hN⟩ := hp
    have hname : nameB (ns n) = true := (nameB_iff _).2 hN
    rcases hc with ⟨rfl, q', d', e, g'⟩ | ⟨rfl, e⟩
    · refine Ev.bind (Define_had gu hs hN e g') (Ev.bind (uMay_yes gu) (Ev.ifp rfl (Ev.bind (rname_to hs) (Ev.ifp hname (Ev.ifp rfl ?_)))))
      exact Ev.ifp rfl (Ev.bind Names_92 (Ev.ifp l92 wk))
    · refine Ev.bind (Define_new gu hs hN e) (Ev.bind (uMay_yes gu) (Ev.ifp rfl (Ev.bind (rname_to hs) (Ev.ifp hname (Ev.ifn (show ¬ (false = true) by decide) ?_)))))
      have hl : Tk (T92 ++ [(n, cu q d)]) := Tk_new Tk_T92 gu
      have ht : tget n (T92 ++ [(n, cu q d)]) = some (cu q d) := tget_new e _
      have hlen : (T92 ++ [(n, cu q d)]).length = 93 := by rw [List.length_append, len_T92]; rfl
      refine Ev.bind (Of_yes ht gu) (Ev.bind (uParse_to hl (by omega) (Run_name hN (tv_get ht) gu)) ?_)
      refine Ev.ifp rfl (Ev.ifp rfl (Ev.bind (keepUnit_to gu.1.1 d) (Ev.ifp rfl (Ev.ifp rfl (Ev.bind (keepUnit_to gu.1.1 d) (Ev.ifp rfl ?_))))))
      have hN93 : Ev (fun k => unit_Table_Names.f k (some (T92 ++ [(n, cu q d)]))) (T92 ++ [(n, cu q d)], sortN (T92 ++ [(n, cu q d)])) :=
        ⟨0, fun k _ => names_ok (by rw [hlen]; decide) (by
          rw [List.all_append, names92]
          show (true && (decide (n.size ≤ 9223372036854775807) && true)) = true
          rw [decide_eq_true (by omega)]; rfl)⟩
      refine Ev.bind hN93 (Ev.ifp (by rw [sortN_length, hlen]; rfl) (Ev.bind (Define_had gu hs hN ht gu) (Ev.ifp rfl wk)))
  · refine Ev.bind (Define_bad2 wm wb hs hp) ?_
    have no : Ev (fun k => if (1 : Int) = 1 then ((unit_Table_Has.f k (some T92) n).bind fun h2 => (if (h2.2 == h) = true then ((unit_Table_Names.f k (some h2.1)).bind fun l => (if (l.2.length : Int) = 92 then ((steelyardlaw12_wakes.f k).bind fun z => (some z)) else (none))) else (none))) else (none)) true :=
      Ev.ifp rfl (Ev.bind hh (Ev.ifp (beq_self_eq_true h) (Ev.bind Names_92 (Ev.ifp l92 wk))))
    by_cases hM : MayP u
    · have hname : ¬ nameB (ns n) = true := fun e => hp ⟨hM, (nameB_iff _).1 e⟩
      obtain ⟨q, d, rfl, gu⟩ := hM
      exact Ev.bind (uMay_yes gu) (Ev.ifp rfl (Ev.bind (rname_to hs) (Ev.ifn hname no)))
    · exact Ev.bind (uMay_no wm wb hM).1 (Ev.ifn (by decide) no)
end Go.Proofs.YtpchdjdochkjpaaGreatDoor.Pure

/- A text of two with * between is their product, or its fault is one of theirs; what is told may be. -/
import Derived.Test.YtpchdjdochkjpaaGreatDoorMm
import Derived.Test.YtpchdjdochkjpaaGreatDoorPxlawUnitProducts
set_option linter.unusedVariables false
set_option linter.unusedSimpArgs false
namespace Go.Proofs.YtpchdjdochkjpaaGreatDoor.Pure
open Go.RowKit Go.Proofs.YtpchdjdochkjpaaGreatDoor.P Go.Proofs.YtpchdjdochkjpaaGreatDoorW.PrintWords Go.Proofs.YtpchdjdochkjpaaGreatDoorW.PrintMore Go.Proofs.YtpchdjdochkjpaaGreatDoor.Lib
theorem dmul_right (d : Dm) : dmul d z7 = d := by apply Dm.ext' <;> simp [dmul, z7]
theorem UnitProducts : steelyardlaw12_UnitProducts.Pure := by
  intro a b ha hb
  apply Ev.rounds
  unfold steelyardlaw12_UnitProducts.f
  have wk : Ev (fun k => (steelyardlaw12_wakes.f k).bind fun z => some z) true := Ev.bind wakes_to (Ev.now _)
  have ew : wrap64 ((a.size : Int) + (b.size : Int)) = (a.size : Int) + (b.size : Int) := by unfold wrap64; omega
  rw [ew]
  by_cases h150 : (a.size : Int) + (b.size : Int) > 150
  · exact Ev.ifp h150 wk
  have hla := ns_len a
  have hlb := ns_len b
  obtain ⟨ra, hra⟩ := Run.total (tv T92) ((ns a).length + 1) (ns a) 1 z7 false (by omega)
  obtain ⟨rb, hrb⟩ := Run.total (tv T92) ((ns b).length + 1) (ns b) 1 z7 false (by omega)
  have hT := Tg_tv Tk_T92
  have b42 : ns (⟨#[42]⟩ : ByteArray) = [42] := rfl
  have n1 : ns ((a ++ (⟨#[42]⟩ : ByteArray)) ++ b) = ns a ++ 42 :: ns b := by rw [ns_append, ns_append, b42, List.append_assoc]; rfl
  have z1 : ((a ++ (⟨#[42]⟩ : ByteArray)) ++ b).size ≤ 200 := by rw [ns_size, n1, List.length_append, List.length_cons]; omega
  have y1 : (a ++ (⟨#[42]⟩ : ByteArray)).size = a.size + 1 := by rw [ns_size, ns_append, b42, List.length_append, hla]; rfl
  refine Ev.ifn h150 (Ev.bind (Parse_none (uParse_to Tk_T92 (by omega) hra)) ?_)
  have el : ∀ (s : ByteArray) (r : Out), (res s T92 r).1 = T92 := fun s r => by cases r <;> rfl
  rw [el]
  refine Ev.bind (uParse_to Tk_T92 (by omega) hrb) ?_
  rw [el]
  refine Ev.ifp (by omega) (Ev.ifp (by rw [y1]; omega) ?_)
  -- the text of both
  have both : ∀ {r : Out}, Run (tv T92) (ns a ++ 42 :: ns b) 1 z7 false r → Ev (fun k => unit_Table_Parse.f k (some T92) ((a ++ (⟨#[42]⟩ : ByteArray)) ++ b)) (res ((a ++ (⟨#[42]⟩ : ByteArray)) ++ b) T92 r) := fun h => by
    rw [← n1] at h
    exact uParse_to Tk_T92 z1 h
  cases ra with
  | bad e u =>
    have he : e ≠ 0 := by have := hra.err rfl; omega
    refine Ev.bind (both (hra.app_bad rfl)) ?_
    exact Ev.ifn he (Ev.ifn he (Ev.ifp rfl wk))
  | ok q1 d1 =>
    have g1 := hra.good hT Gu_one rfl
    have app : ∀ {r : Out}, Run (tv T92) (ns b) q1 d1 false r → Run (tv T92) (ns a ++ 42 :: ns b) 1 z7 false r := fun h => hra.app_ok rfl h
    have two : (∃ u, rb = .bad 2 u) ∨ ∃ r', Run (tv T92) (ns b) q1 d1 false r' ∧ Rel2 q1 d1 rb r' := by
      have := hrb.mul q1 d1
      rw [Rat.mul_one, dmul_right] at this
      exact this
    have bad : ∀ {r : Out} {e : Int} {u : List Int}, Run (tv T92) (ns b) q1 d1 false r → r = .bad e u → Ev (fun k => unit_Table_Parse.f k (some T92) ((a ++ (⟨#[42]⟩ : ByteArray)) ++ b)) (T92, zu, e, po ((a ++ (⟨#[42]⟩ : ByteArray)) ++ b) u) := fun h hr => by
      subst hr
      exact both (app h)
    cases rb with
    | bad e u =>
      rcases hrb.err rfl with rfl | rfl | rfl
      · -- too great by itself
        obtain ⟨r, hr⟩ := Run.total (tv T92) ((ns a ++ 42 :: ns b).length + 1) (ns a ++ 42 :: ns b) 1 z7 false (by omega)
        exact Ev.bind (both hr) (Ev.ifp rfl (Ev.bind (uMay_yes g1) (Ev.ifp rfl (Ev.ifn (show ¬ (2 : Int) = 12 by decide) (Ev.ifn (show ¬ (2 : Int) = 15 by decide) (Ev.ifn (show ¬ (2 : Int) = 0 by decide) (Ev.ifp rfl wk)))))))
      · rcases two with ⟨u, h⟩ | ⟨r', hr', hrel⟩
        · cases h
        · have : ∃ e' u', r' = .bad e' u' ∧ e' ≠ 0 := by
            rcases hrel with h | ⟨v, h⟩
            · exact ⟨_, _, h, by decide⟩
            · exact ⟨_, _, h, by decide⟩
          obtain ⟨e', u', h, h0⟩ := this
          exact Ev.bind (bad hr' h) (Ev.ifp rfl (Ev.bind (uMay_yes g1) (Ev.ifp rfl (Ev.ifp rfl (Ev.ifn h0 wk)))))
      · rcases two with ⟨u, h⟩ | ⟨r', hr', hrel⟩
        · cases h
        · have : ∃ e' u', r' = .bad e' u' ∧ e' ≠ 0 := by
            rcases hrel with h | ⟨v, h⟩
            · exact ⟨_, _, h, by decide⟩
            · exact ⟨_, _, h, by decide⟩
          obtain ⟨e', u', h, h0⟩ := this
          exact Ev.bind (bad hr' h) (Ev.ifp rfl (Ev.bind (uMay_yes g1) (Ev.ifp rfl (Ev.ifn (show ¬ (15 : Int) = 12 by decide) (Ev.ifp rfl (Ev.ifn h0 wk))))))
    | ok q2 d2 =>
      have g2 := hrb.good hT Gu_one rfl
      rcases two with ⟨u, h⟩ | ⟨r', hr', h | ⟨v, h⟩⟩
      · cases h
      · subst h
        have g3 := hr'.good hT g1 rfl
        refine Ev.bind (both (app hr')) (Ev.ifp rfl (Ev.bind (uMay_yes g1) (Ev.ifp rfl (Ev.ifn (show ¬ (0 : Int) = 12 by decide) (Ev.ifn (show ¬ (0 : Int) = 15 by decide) (Ev.ifp rfl (Ev.ifp rfl ?_)))))))
        have hd : dim_Mul.f d1 d2 = some (dmul d1 d2, 0) := (dMul_eq g1.1.2 g2.1.2).trans (congrArg some (dr_yes g3.1.2))
        have hq := Ev.eq (qMul_to g1.1.1 g2.1.1 rfl) (qr_yes g3.1.1)
        refine Ev.bind (Ev.const hd) (Ev.bind hq ?_)
        refine Ev.ifp (by simp [res, cu]) (Ev.bind (keepQ_to g3.1.1 rfl) (Ev.ifp rfl (Ev.ifp rfl (Ev.ifp rfl wk))))
      · exact Ev.bind (bad hr' h) (Ev.ifp rfl (Ev.bind (uMay_yes g1) (Ev.ifp rfl (Ev.ifn (show ¬ (0 : Int) = 12 by decide) (Ev.ifn (show ¬ (0 : Int) = 15 by decide) (Ev.ifp rfl (Ev.ifn (show ¬ (2 : Int) = 0 by decide) (Ev.ifp rfl wk))))))))
end Go.Proofs.YtpchdjdochkjpaaGreatDoor.Pure

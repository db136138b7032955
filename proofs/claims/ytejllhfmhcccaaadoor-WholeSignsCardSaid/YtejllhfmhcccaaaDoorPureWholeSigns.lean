/- A product is below 0 just if one of both is; a number is as its sign and its size say; noughts behind its limbs count for nothing. -/
import Derived.Test.YtejllhfmhcccaaaDoorMl
import Derived.Test.YtejllhfmhcccaaaDoorPxlawWholeSigns
set_option linter.unusedVariables false
set_option linter.unusedSimpArgs false
namespace Go.Proofs.YtejllhfmhcccaaaDoor.Pure
open Go.RowKit Go.Proofs.YtejllhfmhcccaaaDoor.P Go.Proofs.YtejllhfmhcccaaaDoorW.PrintWords Go.Proofs.YtejllhfmhcccaaaDoorW.PrintMore Go.Proofs.YtejllhfmhcccaaaDoor.Lib
theorem vz_zeros (x : Bool) (l : List Int) (i : Nat) : vz x (l ++ List.replicate i 0) = vz x l := by
  have : V (l ++ List.replicate i 0) = V l := by rw [V_app, V_rep, Nat.mul_zero, Nat.add_zero]
  unfold vz
  rw [this]
theorem WholeSigns : steelyardlaw06_WholeSigns.Pure := by
  intro x a y b n _ _ ha _ _ hb hn
  apply Ev.rounds
  have wk : Ev (fun k => steelyardlaw06_WholeSigns.j0 k n true x a y b) true := Ev.succ (by simp only [steelyardlaw06_WholeSigns.j0]; exact Ev.ifp trivial (Ev.bind wakes6 (Ev.now _)))
  have bn := bounds_u8 hn
  obtain ⟨p, hp, hpe⟩ : ∃ p : Nat, p < 4 ∧ Int.tmod (wrap64 n) 4 = (p : Int) := by
    refine ⟨(n % 4).toNat, by omega, ?_⟩
    rw [w64 (by omega) (by omega), Int.tmod_eq_emod_of_nonneg (by omega)]
    omega
  unfold steelyardlaw06_WholeSigns.f
  simp only [steelyardlaw06_Long.f, Option.bind_some, decide_eq_true_eq]
  by_cases h1 : (a.length : Int) > 60
  · exact Ev.ifp h1 wk
  refine Ev.ifn h1 ?_
  by_cases h2 : (b.length : Int) > 60
  · rw [decide_eq_true h2]; exact wk
  rw [decide_eq_false h2]
  have sa : S 63 a := (S_of (m := 60) (wf_u32 ha) h1).up (by omega)
  have sb : S 63 b := (S_of (m := 60) (wf_u32 hb) h2).up (by omega)
  have sc : ∀ i, i < 4 → S 63 (a ++ List.replicate i 0) := fun i hi => ⟨W_app.2 ⟨sa.1, W_rep i⟩, by rw [List.length_append, List.length_replicate]; omega⟩
  obtain ⟨X, hX⟩ : ∃ X, vz x a = X := ⟨_, rfl⟩
  obtain ⟨Y, hY⟩ : ∃ Y, vz y b = Y := ⟨_, rfl⟩
  have hZ : ∀ i, vz x (a ++ List.replicate i 0) = X := fun i => (vz_zeros x a i).trans hX
  have bX : X.natAbs < Bp 63 := hX ▸ S_vz x sa
  have bY : Y.natAbs < Bp 63 := hY ▸ S_vz y sb
  have s0 : S 63 (cz 0).2 := S_cz (na_small (by decide) (by omega))
  have end_ : Ev (fun k => steelyardlaw06_WholeSigns.l0 k n (cmpZ X 0) (cmpZ Y 0) (cmpZ (X * Y) 0) (p : Int) x a y b x (a ++ List.replicate p 0)) true := by
    refine Ev.succ ?_
    simp only [steelyardlaw06_WholeSigns.l0]
    rw [hpe]
    refine Ev.ifn (by omega) (Ev.bind (wTrim_to sa (by omega) hX) (Ev.ifp ?_ ?_))
    · have := cmpZ_mul X 0 Y
      rw [Int.zero_mul] at this
      exact this
    refine Ev.bind (wTrim_to (sc p hp) (by omega) (hZ p)) (Ev.bind (keepCz_to bX (by omega) rfl) (Ev.ifp rfl ?_))
    refine Ev.bind (wAdd_to (z := X + Y) (sc p hp) sb (by omega) (by rw [hZ, hY])) (Ev.bind (wAdd_to (z := X + Y) sa sb (by omega) (by rw [hX, hY])) ?_)
    refine Ev.bind (keepCz_to (na_add bX bY (show 63 < 64 by omega)) (by omega) rfl) (Ev.ifp rfl ?_)
    refine Ev.bind (wMul_to (z := X * Y) (sc p hp) sb (by omega) (by rw [hZ, hY])) (Ev.bind (wMul_to (z := X * Y) sa sb (by omega) (by rw [hX, hY])) ?_)
    refine Ev.bind (keepCz_to (na_mul bX bY (show 63 + 63 ≤ 126 by omega)) (by omega) rfl) (Ev.ifp rfl (Ev.ifp ?_ ?_))
    · have e : decide (cmpZ X 0 < 0) = (cz X).1 := by
        unfold cz
        rw [decide_eq_decide]
        rcases cmpZ_cases X 0 with ⟨h', e⟩ | ⟨h', e⟩ | ⟨h', e⟩ <;> rw [e] <;> omega
      rw [e]
      exact beq_self_eq_true _
    · refine Ev.bind (wText_to (sc p hp) (by omega) (hZ p)) (Ev.bind (wText_to sa (by omega) hX) (Ev.ifp rfl (Ev.bind wakes6 (Ev.now _))))
  have loop : ∀ (e i : Nat), i + e = p → Ev (fun k => steelyardlaw06_WholeSigns.l0 k n (cmpZ X 0) (cmpZ Y 0) (cmpZ (X * Y) 0) (i : Int) x a y b x (a ++ List.replicate i 0)) true := by
    intro e
    induction e with
    | zero => intro i hi; rw [Nat.add_zero] at hi; rw [hi]; exact end_
    | succ e ih =>
      intro i hi
      refine Ev.succ ?_
      simp only [steelyardlaw06_WholeSigns.l0]
      have hl := (sc i (by omega)).2
      rw [hpe, w64_succ (by omega), List.append_assoc, ← List.replicate_succ']
      exact Ev.ifp (by omega) (Ev.ifp (by omega) (ih (i + 1) (by omega)))
  refine Ev.succ ?_
  simp only [steelyardlaw06_WholeSigns.j0]
  refine Ev.ifn (by decide) (Ev.bind (wOf_to (by omega) (by omega)) (Ev.bind (wCmp_to (c := cmpZ X 0) sa s0 (by omega) (by rw [hX, vz_cz])) (Ev.bind (wCmp_to (c := cmpZ Y 0) sb s0 (by omega) (by rw [hY, vz_cz])) ?_)))
  refine Ev.bind (wMul_to (z := X * Y) sa sb (by omega) (by rw [hX, hY])) (Ev.bind (wCmp_to (m := 126) (c := cmpZ (X * Y) 0) (S_cz (na_mul bX bY (by omega))) (s0.up (by omega)) (by omega) (by rw [vz_cz, vz_cz])) ?_)
  rw [OwnInt_spec (by have := sa.2; omega)]
  simp only [Option.bind_some]
  have := loop p 0 (by omega)
  rw [List.replicate_zero, List.append_nil] at this
  exact this
end Go.Proofs.YtejllhfmhcccaaaDoor.Pure

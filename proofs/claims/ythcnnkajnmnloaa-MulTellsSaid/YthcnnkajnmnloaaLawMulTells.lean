-- Written by a program of this session (wip/tool), turned from the kit's print. Lean checks it.
import Derived.Test.YthcnnkajnmnloaaRows
import Derived.Test.YthcnnkajnmnloaaPxlawMulTells
import Derived.Test.YthcnnkajnmnloaaPureMulTells
import Derived.Test.YthcnnkajnmnloaaYRow
import Derived.WalkKit
import Derived.ProofKit
import Derived.OpenShut
import Derived.ShutString
import Derived.ChangeOld
import Derived.Below
import Derived.SizedLaws
namespace Go.Proofs.Ythcnnkajnmnloaa.mulTells
open Go.ChangeShapes Go.WideShapes Go.ChangeAt Go.RowKit Go.Proofs.YthcnnkajnmnloaaW.RowWords
open Go.ChangeMaps (open_string shut_string)
set_option linter.unusedVariables false
theorem own : ownKnob Try.prog.godebug = none := by kernel_rfl
theorem laidOut : laidOutB Try.prog = true := by kernel_rfl
set_option maxRecDepth 100000 in
theorem lifted (os : Os) (started : os.Started) (H : Type) (enc : TypeId × Value → H) :
    ReturnsInHanded {} Try.checked os 3 .any (Rows.mulTellsSpec.pre6 enc Try.prog Try.f3 Rows.mulTellsRow.domain false) (Rows.mulTellsSpec.post enc Try.prog Try.f3 false true false false) := by
  refine returnsInHanded_of_change_sized (C := Try.checked) own started (by kernel_rfl) Try.func3
    (ChangeSpec.witness6 (enc := enc) (C := Try.checked) false ⟨#[], #[.slice none 0 0, .slice none 0 0, .agg #[.int .i64 0, .int .i64 0, .int .i64 0]], []⟩ 8 (by kernel_rfl) (by kernel_rfl) (by kernel_rfl) (by kernel_rfl)) ?_
  intro W base args ds gs before hval0 hW hcnd hsz0 _
  have hsz : (DataW.weightsEach Try.prog (Try.f3.params.toList ++ Rows.mulTellsSpec.plain.varTypes Try.prog) (ds ++ gs)).all (· ≤ reachBytes) = true := hsz0
  have hval : ∀ (j : Nat) t v, Try.f3.params[j]? = some t → args[j]? = some v → Value.okWide Try.prog W .any base t v := hval0
  have hW' := hW
  obtain ⟨p, q, hA0, hV, rfl, hfz, hnd⟩ := hW
  have hA : DataW.TrodAll enc Try.prog W 0 (fun _ => true) true Try.f3.params.toList args.toList ds p := hA0
  rw [Try.params3] at hA hval hsz
  obtain ⟨v0, vs0, d0, ds0, p0, q0, hargs, rfl, rfl, h0, r0⟩ := trodAll_cons hA
  obtain ⟨v1, vs1, d1, ds1, p1, q1, rfl, rfl, rfl, h1, r1⟩ := trodAll_cons r0
  obtain ⟨v2, vs2, d2, ds2, p2, q2, rfl, rfl, rfl, h2, r2⟩ := trodAll_cons r1
  obtain ⟨rfl, rfl, rfl⟩ := trodAll_nil r2
  obtain rfl : args = #[v0, v1, v2] := by cases args; simp_all
  obtain ⟨rfl, rfl⟩ := trodVars_none hV
  have k0 := h0
  have lt0 : ∀ x ∈ p0, x.block < W.heap.size := by obtain ⟨m, hm⟩ := k0; exact DataW.trod_lt m _ _ _ hm
  have wt0 := arg_weights hsz (j := 0) (t := 23) (d := d0) rfl rfl
  obtain ⟨a_, l_, c_, rfl⟩ := okWide_slice Try.underlying23 (hval 0 23 v0 rfl rfl)
  obtain ⟨fu0, hf0⟩ := h0
  obtain ⟨a0, len0, cap0, z0, hc_, w0, y0⟩ := ints_leaf Try.underlying23 Try.underlying36 (by kernel_rfl) (B := 4) (by kernel_rfl) hf0 wt0
  injection hc_ with e1 e2 e3; subst a_ l_ c_
  have k1 := h1
  have lt1 : ∀ x ∈ p1, x.block < W.heap.size := by obtain ⟨m, hm⟩ := k1; exact DataW.trod_lt m _ _ _ hm
  have wt1 := arg_weights hsz (j := 1) (t := 23) (d := d1) rfl rfl
  obtain ⟨a_, l_, c_, rfl⟩ := okWide_slice Try.underlying23 (hval 1 23 v1 rfl rfl)
  obtain ⟨fu1, hf1⟩ := h1
  obtain ⟨a1, len1, cap1, z1, hc_, w1, y1⟩ := ints_leaf Try.underlying23 Try.underlying36 (by kernel_rfl) (B := 4) (by kernel_rfl) hf1 wt1
  injection hc_ with e1 e2 e3; subst a_ l_ c_
  have k2 := h2
  have lt2 : ∀ x ∈ p2, x.block < W.heap.size := by obtain ⟨m, hm⟩ := k2; exact DataW.trod_lt m _ _ _ hm
  have wt2 := arg_weights hsz (j := 2) (t := 24) (d := d2) rfl rfl
  obtain ⟨cs2, rfl, hn2⟩ := okWide_arr Try.underlying24 (hval 2 24 v2 rfl rfl)
  obtain ⟨c2_0, c2_1, c2_2, rfl⟩ := cells3 (hn2.trans (by kernel_rfl))
  obtain ⟨fu2, hf2⟩ := h2
  change DataW.trod enc Try.prog W 0 (fun _ => true) true fu2 24 [c2_0, c2_1, c2_2] = some (d2, p2) at hf2
  obtain ⟨n2_1, y2_1_, g2_1, e2_1⟩ := elem_of Try.underlying24 hf2 wt2 0 (by decide)
  replace g2_1 : DataW.trod enc Try.prog W 0 (fun _ => true) true n2_1 3 [c2_0] = some y2_1_ := by rw [show Try.prog.cellsOf 3 = 1 from by kernel_rfl] at g2_1; exact g2_1
  obtain ⟨a2_0, hc_, w2_0⟩ := int_leaf Try.underlying3 g2_1
  subst hc_
  obtain ⟨n2_2, y2_2_, g2_2, e2_2⟩ := elem_of Try.underlying24 hf2 wt2 1 (by decide)
  replace g2_2 : DataW.trod enc Try.prog W 0 (fun _ => true) true n2_2 3 [c2_1] = some y2_2_ := by rw [show Try.prog.cellsOf 3 = 1 from by kernel_rfl] at g2_2; exact g2_2
  obtain ⟨a2_1, hc_, w2_1⟩ := int_leaf Try.underlying3 g2_2
  subst hc_
  obtain ⟨n2_3, y2_3_, g2_3, e2_3⟩ := elem_of Try.underlying24 hf2 wt2 2 (by decide)
  replace g2_3 : DataW.trod enc Try.prog W 0 (fun _ => true) true n2_3 3 [c2_2] = some y2_3_ := by rw [show Try.prog.cellsOf 3 = 1 from by kernel_rfl] at g2_3; exact g2_3
  obtain ⟨a2_2, hc_, w2_2⟩ := int_leaf Try.underlying3 g2_3
  subst hc_
  clear hA0 hval0 hsz0 hsz
  refine (P.steelyardlaw02_MulTells.walk Pure.MulTells a0 len0 cap0 z0 a1 len1 cap1 z1 a2_0 a2_1 a2_2 W w0 y0 w1 y1 w2_0 w2_1 w2_2).mono fun e W' ⟨he, bel⟩ => ?_
  subst he
  exact ⟨_, rfl, _, _, _, [], _, [], hW', trodAll_mk1 (shut_bool Try.underlying4 _), (trodAll_cons_mk (Below.trod laidOut (by kernel_rfl) (of_decide_eq_true (by kernel_rfl)) k0 bel lt0) (trodAll_cons_mk (Below.trod laidOut (by kernel_rfl) (of_decide_eq_true (by kernel_rfl)) k1 bel lt1) (trodAll_cons_mk (Below.trod laidOut (by kernel_rfl) (of_decide_eq_true (by kernel_rfl)) k2 bel lt2) trodAll_mk0))), rfl, bel.frame _, fun h => by cases h⟩
theorem over : Rows.mulTellsRow.holds Try.pinned (OpenSpec.ofChange Rows.mulTellsSpec) :=
  OpenClaim.holds_of_wide 3 Try.f3 rfl rfl rfl rfl rfl rfl rfl ⟨rfl, rfl, rfl, rfl, rfl⟩ rfl rfl rfl rfl rfl (by kernel_rfl) Try.func3 (by kernel_rfl)
    (of_decide_eq_true (by kernel_rfl)) (by unfold Func.isWrapper; first | (rw [if_pos (by decide +kernel)]; kernel_rfl) | (rw [if_neg (by decide +kernel)]; exact ⟨rfl, rfl⟩))
    (fun os started H enc _ => lifted os started H enc)
theorem proved : Rows.MulTellsSaid := over
#print axioms proved
end Go.Proofs.Ythcnnkajnmnloaa.mulTells
namespace Go.Proofs.Ythcnnkajnmnloaa
/-- The row, under a short name, for the claim. -/
theorem mulTells_holds : Rows.MulTellsSaid := mulTells.proved
end Go.Proofs.Ythcnnkajnmnloaa

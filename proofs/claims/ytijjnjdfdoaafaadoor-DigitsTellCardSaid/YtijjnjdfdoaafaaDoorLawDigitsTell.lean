-- Written by a program of this session (wip/tool), turned from the kit's print. Lean checks it.
import Derived.Test.YtijjnjdfdoaafaaDoorRows
import Derived.Test.YtijjnjdfdoaafaaDoorPxlawDigitsTell
import Derived.Test.YtijjnjdfdoaafaaDoorPureDigitsTell
import Derived.Test.YtijjnjdfdoaafaaDoorYRow
import Derived.Test.YtijjnjdfdoaafaaDoorCards
import Derived.Test.YtijjnjdfdoaafaaDoorTie
import Derived.WalkKit
import Derived.ProofKit
import Derived.OpenShut
import Derived.ShutString
import Derived.ChangeOld
import Derived.Below
import Derived.SizedLaws
import Derived.LaidMore
import Derived.Lib.LaidTab
import Derived.Stop.Joined
import Derived.SevenTiedAt
namespace Go.Proofs.YtijjnjdfdoaafaaDoor.digitsTell
open Go.ChangeShapes Go.WideShapes Go.ChangeAt Go.RowKit Go.Proofs.YtijjnjdfdoaafaaDoorW.RowWords
open Go.ChangeMaps (open_string shut_string)
set_option linter.unusedVariables false
theorem own : ownKnob Tryd.prog.godebug = none := by kernel_rfl
theorem laidOut : laidOutB Tryd.prog = true := by kernel_rfl
open Go.Proofs.YtijjnjdfdoaafaaDoorW.PrintWords Go.Proofs.YtijjnjdfdoaafaaDoorW.PrintMore
def laid : List (String × DataW Unit) := [("steelyard/digits.tens", Rows.laid_steelyard_digits_tens)]
theorem door_met (os : Os) (args : Array Value) : laidMetH Tryd.prog laid ((World.doorLaid Tryd.prog 400 os).forCall (fun _ _ => 0) ⟨#[], args, []⟩).memory :=
  laidMetH_of_parts3 (fuel := 8) (laidMet_of_run' 8 (by kernel_rfl) (by kernel_rfl)) (by kernel_rfl) (by kernel_rfl)
theorem tab0 {W : World} (h0 : laidMetH Tryd.prog laid W) : Kd.C (Kd.int .u32) W (some ⟨0, 0, none⟩) tab0_.length tab0_ := by
  rw [MakeChecks.laidMetH_plain _ _ _ (by kernel_rfl)] at h0
  have h : laidMet Tryd.prog laid W := h0
  have hT : Lib.TabIs Tryd.prog W "steelyard/digits.tens" .u32 tab0_ := Lib.tabIs_of_head (g := 0) (t := 46) (e := 39) (n := 10) (by kernel_rfl) (by kernel_rfl) Tryd.underlying46 Tryd.underlying39 (by kernel_rfl) (by kernel_rfl) h
  exact Kd.C_of_reads (d := (0 : Int)) (h1 := fun _ => rfl) (show ReadsInt W .u32 (some ⟨0, 0, none⟩) tab0_.length tab0_ from ⟨rfl, by decide, fun _ => ⟨_, rfl, fun j hj => by have h_ := hT.cell (g := 0) (by kernel_rfl) j hj; have e_ : Addr.add ⟨0, 0, none⟩ j = ⟨0, j, none⟩ := (by by_cases z : j = 0 <;> simp [Addr.add, z]); rw [e_]; exact h_⟩⟩)
set_option maxRecDepth 100000 in
theorem lifted (os : Os) (started : os.Started) (H : Type) (enc : TypeId × Value → H) :
    ReturnsInHanded {} Tryd.checked os 3 .any (fun w args => (Rows.digitsTellSpec.pre enc Tryd.prog Tryd.f3 [] false w args ∧ laidMetH Tryd.prog laid w) ∧ sizedMet enc Tryd.prog Tryd.f3 (OpenSpec.ofChange Rows.digitsTellSpec) false w args) (Rows.digitsTellSpec.post enc Tryd.prog Tryd.f3 false true false false) := by
  refine returnsInHanded_of_change_and (C := Tryd.checked) (X := fun w _ => laidMetH Tryd.prog laid w) (fun _ _ _ hh h => h.of_heap hh) own started (by kernel_rfl) Tryd.func3
    (ChangeSpec.witness_shaped (enc := enc) (C := Tryd.checked) (os := os) (X := fun w _ => laidMetH Tryd.prog laid w) false (World.doorLaid Tryd.prog 400 os) #[.slice none 0 0, .string ByteArray.empty, .int .i64 0] 8 rfl (World.shaped_of_RefB (by kernel_rfl) (by kernel_rfl)) (by kernel_rfl) (by kernel_rfl) (by kernel_rfl) (door_met os _)) ?_
  intro W base args ds gs before hval0 hW hcnd hsz0 hL _
  have hsz : (DataW.weightsEach Tryd.prog (Tryd.f3.params.toList ++ Rows.digitsTellSpec.plain.varTypes Tryd.prog) (ds ++ gs)).all (· ≤ reachBytes) = true := hsz0
  have hval : ∀ (j : Nat) t v, Tryd.f3.params[j]? = some t → args[j]? = some v → Value.okWide Tryd.prog W .any base t v := hval0
  have hW' := hW
  obtain ⟨p, q, hA0, hV, rfl, hfz, hnd⟩ := hW
  have hA : DataW.TrodAll enc Tryd.prog W 0 (fun _ => true) true Tryd.f3.params.toList args.toList ds p := hA0
  rw [Tryd.params3] at hA hval hsz
  obtain ⟨v0, vs0, d0, ds0, p0, q0, hargs, rfl, rfl, h0, r0⟩ := trodAll_cons hA
  obtain ⟨v1, vs1, d1, ds1, p1, q1, rfl, rfl, rfl, h1, r1⟩ := trodAll_cons r0
  obtain ⟨v2, vs2, d2, ds2, p2, q2, rfl, rfl, rfl, h2, r2⟩ := trodAll_cons r1
  obtain ⟨rfl, rfl, rfl⟩ := trodAll_nil r2
  obtain rfl : args = #[v0, v1, v2] := by cases args; simp_all
  obtain ⟨rfl, rfl⟩ := trodVars_none hV
  have k0 := h0
  have lt0 : ∀ x ∈ p0, x.block < W.heap.size := by obtain ⟨m, hm⟩ := k0; exact DataW.trod_lt m _ _ _ hm
  have wt0 := arg_weights hsz (j := 0) (t := 23) (d := d0) rfl rfl
  obtain ⟨a_, l_, c_, rfl⟩ := okWide_slice Tryd.underlying23 (hval 0 23 v0 rfl rfl)
  obtain ⟨fu0, hf0⟩ := h0
  obtain ⟨a0, len0, cap0, z0, hc_, w0, y0⟩ := ints_leaf Tryd.underlying23 Tryd.underlying39 (by kernel_rfl) (B := 4) (by kernel_rfl) hf0 wt0
  injection hc_ with e1 e2 e3; subst a_ l_ c_
  have k1 := h1
  have lt1 : ∀ x ∈ p1, x.block < W.heap.size := by obtain ⟨m, hm⟩ := k1; exact DataW.trod_lt m _ _ _ hm
  have wt1 := arg_weights hsz (j := 1) (t := 9) (d := d1) rfl rfl
  obtain ⟨b_, rfl⟩ := okWide_string Tryd.underlying9 (hval 1 9 v1 rfl rfl)
  obtain ⟨fu1, hf1⟩ := h1
  obtain ⟨a1, hc_, w1⟩ := string_leaf Tryd.underlying9 hf1 wt1
  injection hc_ with e1; subst b_
  have k2 := h2
  have lt2 : ∀ x ∈ p2, x.block < W.heap.size := by obtain ⟨m, hm⟩ := k2; exact DataW.trod_lt m _ _ _ hm
  have wt2 := arg_weights hsz (j := 2) (t := 3) (d := d2) rfl rfl
  obtain ⟨b_, rfl⟩ := okWide_int Tryd.underlying3 (hval 2 3 v2 rfl rfl)
  obtain ⟨fu2, hf2⟩ := h2
  obtain ⟨a2, hc_, w2⟩ := int_leaf Tryd.underlying3 hf2
  injection hc_ with e1; subst b_
  clear hA0 hval0 hsz0 hsz
  refine (P.steelyardlaw05_DigitsTell.walk Pure.DigitsTell a0 len0 cap0 z0 a1 a2 W w0 y0 w1 w2 (tab0 hL)).mono fun e W' ⟨he, bel⟩ => ?_
  subst he
  exact ⟨_, rfl, _, _, _, [], _, [], hW', trodAll_mk1 (shut_bool Tryd.underlying4 _), (trodAll_cons_mk (Below.trod laidOut (by kernel_rfl) (of_decide_eq_true (by kernel_rfl)) k0 bel lt0) (trodAll_cons_mk (Below.trod laidOut (by kernel_rfl) (of_decide_eq_true (by kernel_rfl)) k1 bel lt1) (trodAll_cons_mk (Below.trod laidOut (by kernel_rfl) (of_decide_eq_true (by kernel_rfl)) k2 bel lt2) trodAll_mk0))), rfl, bel.frame _, fun h => by cases h⟩
theorem over : Rows.digitsTellRow.holds Tryd.pinned (OpenSpec.ofChange Rows.digitsTellSpec) :=
  OpenClaim.holds_of_wide 3 Tryd.f3 rfl rfl rfl rfl rfl rfl rfl ⟨rfl, rfl, rfl, rfl, rfl⟩ rfl rfl rfl rfl rfl (by kernel_rfl) Tryd.func3 (by kernel_rfl)
    (of_decide_eq_true (by kernel_rfl)) (by unfold Func.isWrapper; first | (rw [if_pos (by decide +kernel)]; kernel_rfl) | (rw [if_neg (by decide +kernel)]; exact ⟨rfl, rfl⟩))
    (fun os started H enc _ => lifted os started H enc)
theorem proved : Rows.DigitsTellCardSaid :=
  Claim7.holds_tied_plain_at .later [] [.data] true (true, "8d6ea3850fa2719269afdec39786151b19af788772992a67b26ce4504ee0575b") false over (fun _ h => by cases h) (by kernel_rfl) (fun _ h => by cases h) digitsTell_row_tie rfl ⟨rfl, rfl⟩ (by kernel_rfl) rfl
    (fun f fn hf hfn => by
      obtain rfl : f = 3 := Option.some.inj ((show Tryd.prog.funcNamed "steelyard/steelyardlaw05.DigitsTell" = some 3 by kernel_rfl).symm.trans hf) |>.symm
      obtain rfl : fn = Tryd.f3 := (Option.some.inj (Tryd.func3.symm.trans hfn)).symm
      exact ⟨by kernel_rfl, fun j t ht => by
        rw [Tryd.params3] at ht
        rcases j with _ | _ | _ | j
        all_goals first | (simp at ht; subst ht; kernel_rfl) | (simp at ht)⟩)
    (by kernel_rfl)
#print axioms proved
end Go.Proofs.YtijjnjdfdoaafaaDoor.digitsTell
namespace Go.Proofs.YtijjnjdfdoaafaaDoor
/-- The row, under a short name, for the claim. -/
theorem digitsTell_holds : Rows.DigitsTellCardSaid := digitsTell.proved
end Go.Proofs.YtijjnjdfdoaafaaDoor

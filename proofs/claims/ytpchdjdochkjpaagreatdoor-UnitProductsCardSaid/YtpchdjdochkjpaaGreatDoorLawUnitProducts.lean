-- x
import Derived.Test.YtpchdjdochkjpaaGreatDoorRows
import Derived.Test.YtpchdjdochkjpaaGreatDoorPxlawUnitProducts
import Derived.Test.YtpchdjdochkjpaaGreatDoorPureUnitProducts
import Derived.Test.YtpchdjdochkjpaaGreatDoorYRow
import Derived.Test.YtpchdjdochkjpaaGreatDoorCards
import Derived.Test.YtpchdjdochkjpaaGreatDoorTie
import Derived.Test.YtpchdjdochkjpaaGreatDoorMc
import Derived.Stop.LaidErr
import Derived.WalkKit
import Derived.ProofKit
import Derived.OpenShut
import Derived.ShutString
import Derived.ChangeOld
import Derived.Below
import Derived.SizedLaws
import Derived.LaidMore
import Derived.Lib.LaidTab
import Derived.Stop.Joined
import Derived.SevenTiedAt
namespace Go.Proofs.YtpchdjdochkjpaaGreatDoor.unitProducts
open Go.ChangeShapes Go.WideShapes Go.ChangeAt Go.RowKit Go.Proofs.YtpchdjdochkjpaaGreatDoorW.RowWords
open Go.ChangeMaps (open_string shut_string)
set_option linter.unusedVariables false
theorem own : ownKnob Tryz.prog.godebug = none := by kernel_rfl
theorem laidOut : laidOutB Tryz.prog = true := by kernel_rfl
open Go.Proofs.YtpchdjdochkjpaaGreatDoorW.PrintWords Go.Proofs.YtpchdjdochkjpaaGreatDoorW.PrintMore
def laid : List (String × DataW Unit) := [("steelyard/unit.rows", Rows.laid_steelyard_unit_rows), ("steelyard/unit.prefixes", Rows.laid_steelyard_unit_prefixes)]
theorem door_met (os : Os) (args : Array Value) : laidMetH Tryz.prog laid ((World.doorLaid Tryz.prog 400 os).forCall (fun _ _ => 0) ⟨#[], args, []⟩).memory :=
  laidMetH_of_parts3 (fuel := 8) (laidMet_of_run' 8 (by kernel_rfl) (by kernel_rfl)) (by kernel_rfl) (by kernel_rfl)
set_option maxRecDepth 100000 in
theorem tab0 {W : World} (h0 : laidMetH Tryz.prog laid W) : Go.Proofs.YtpchdjdochkjpaaGreatDoor.Am.F W (Go.Proofs.YtpchdjdochkjpaaGreatDoor.Am.old W) (.fptr (.agg Go.Proofs.YtpchdjdochkjpaaGreatDoor.Am.rowsT)) (.pointer (some ⟨0, 0, none⟩)) := by
  rw [MakeChecks.laidMetH_plain _ _ _ (by kernel_rfl)] at h0
  have h : laidMet Tryz.prog laid W := h0
  exact Go.Proofs.YtpchdjdochkjpaaGreatDoor.Am.F_of_stab (g := 0) (m := 4) (t := 152) (by kernel_rfl) (by kernel_rfl) (by kernel_rfl) (by kernel_rfl) (by kernel_rfl) (by decide +kernel) h
set_option maxRecDepth 100000 in
theorem tab1 {W : World} (h0 : laidMetH Tryz.prog laid W) : Go.Proofs.YtpchdjdochkjpaaGreatDoor.Am.F W (Go.Proofs.YtpchdjdochkjpaaGreatDoor.Am.old W) (.fptr (.agg Go.Proofs.YtpchdjdochkjpaaGreatDoor.Am.pfxT)) (.pointer (some ⟨1, 0, none⟩)) := by
  rw [MakeChecks.laidMetH_plain _ _ _ (by kernel_rfl)] at h0
  have h : laidMet Tryz.prog laid W := h0
  replace h := laidMet.tail h
  exact Go.Proofs.YtpchdjdochkjpaaGreatDoor.Am.F_of_stab (g := 1) (m := 4) (t := 156) (by kernel_rfl) (by kernel_rfl) (by kernel_rfl) (by kernel_rfl) (by kernel_rfl) (by decide +kernel) h
set_option maxRecDepth 100000 in
theorem lifted (os : Os) (started : os.Started) (H : Type) (enc : TypeId × Value → H) :
    ReturnsInHanded {} Tryz.checked os 4 .any (fun w args => (Rows.unitProductsSpec.pre enc Tryz.prog Tryz.f4 [] false w args ∧ laidMetH Tryz.prog laid w) ∧ sizedMet enc Tryz.prog Tryz.f4 (OpenSpec.ofChange Rows.unitProductsSpec) false w args) (Rows.unitProductsSpec.post enc Tryz.prog Tryz.f4 false true false false) := by
  refine returnsInHanded_of_change_and (C := Tryz.checked) (X := fun w _ => laidMetH Tryz.prog laid w) (fun _ _ _ hh h => h.of_heap hh) own started (by kernel_rfl) Tryz.func4
    (ChangeSpec.witness_shaped (enc := enc) (C := Tryz.checked) (os := os) (X := fun w _ => laidMetH Tryz.prog laid w) false (World.doorLaid Tryz.prog 400 os) #[.string ByteArray.empty, .string ByteArray.empty] 8 rfl (World.shaped_of_RefB (by kernel_rfl) (by kernel_rfl)) (by kernel_rfl) (by kernel_rfl) (by kernel_rfl) (door_met os _)) ?_
  intro W base args ds gs before hval0 hW hcnd hsz0 hL _
  have hsz : (DataW.weightsEach Tryz.prog (Tryz.f4.params.toList ++ Rows.unitProductsSpec.plain.varTypes Tryz.prog) (ds ++ gs)).all (· ≤ reachBytes) = true := hsz0
  have hval : ∀ (j : Nat) t v, Tryz.f4.params[j]? = some t → args[j]? = some v → Value.okWide Tryz.prog W .any base t v := hval0
  have hW' := hW
  obtain ⟨p, q, hA0, hV, rfl, hfz, hnd⟩ := hW
  have hA : DataW.TrodAll enc Tryz.prog W 0 (fun _ => true) true Tryz.f4.params.toList args.toList ds p := hA0
  rw [Tryz.params4] at hA hval hsz
  obtain ⟨v0, vs0, d0, ds0, p0, q0, hargs, rfl, rfl, h0, r0⟩ := trodAll_cons hA
  obtain ⟨v1, vs1, d1, ds1, p1, q1, rfl, rfl, rfl, h1, r1⟩ := trodAll_cons r0
  obtain ⟨rfl, rfl, rfl⟩ := trodAll_nil r1
  obtain rfl : args = #[v0, v1] := by cases args; simp_all
  obtain ⟨rfl, rfl⟩ := trodVars_none hV
  have k0 := h0
  have lt0 : ∀ x ∈ p0, x.block < W.heap.size := by obtain ⟨m, hm⟩ := k0; exact DataW.trod_lt m _ _ _ hm
  have wt0 := arg_weights hsz (j := 0) (t := 9) (d := d0) rfl rfl
  obtain ⟨b_, rfl⟩ := okWide_string Tryz.underlying9 (hval 0 9 v0 rfl rfl)
  obtain ⟨fu0, hf0⟩ := h0
  obtain ⟨a0, hc_, w0⟩ := string_leaf Tryz.underlying9 hf0 wt0
  injection hc_ with e1; subst b_
  have k1 := h1
  have lt1 : ∀ x ∈ p1, x.block < W.heap.size := by obtain ⟨m, hm⟩ := k1; exact DataW.trod_lt m _ _ _ hm
  have wt1 := arg_weights hsz (j := 1) (t := 9) (d := d1) rfl rfl
  obtain ⟨b_, rfl⟩ := okWide_string Tryz.underlying9 (hval 1 9 v1 rfl rfl)
  obtain ⟨fu1, hf1⟩ := h1
  obtain ⟨a1, hc_, w1⟩ := string_leaf Tryz.underlying9 hf1 wt1
  injection hc_ with e1; subst b_
  clear hA0 hval0 hsz0 hsz
  refine (P.steelyardlaw12_UnitProducts.walk Pure.UnitProducts a0 a1 W w0 w1 (tab0 hL) (tab1 hL)).mono fun e W' ⟨he, bel⟩ => ?_
  subst he
  exact ⟨_, rfl, _, _, _, [], _, [], hW', trodAll_mk1 (shut_bool Tryz.underlying4 _), (trodAll_cons_mk (Below.trod laidOut (by kernel_rfl) (of_decide_eq_true (by kernel_rfl)) k0 bel lt0) (trodAll_cons_mk (Below.trod laidOut (by kernel_rfl) (of_decide_eq_true (by kernel_rfl)) k1 bel lt1) trodAll_mk0)), rfl, bel.frame _, fun h => by cases h⟩
theorem over : Rows.unitProductsRow.holds Tryz.pinned (OpenSpec.ofChange Rows.unitProductsSpec) :=
  OpenClaim.holds_of_wide 4 Tryz.f4 rfl rfl rfl rfl rfl rfl rfl ⟨rfl, rfl, rfl, rfl, rfl⟩ rfl rfl rfl rfl rfl (by kernel_rfl) Tryz.func4 (by kernel_rfl)
    (of_decide_eq_true (by kernel_rfl)) (by unfold Func.isWrapper; first | (rw [if_pos (by decide +kernel)]; kernel_rfl) | (rw [if_neg (by decide +kernel)]; exact ⟨rfl, rfl⟩))
    (fun os started H enc _ => lifted os started H enc)
theorem proved : Rows.UnitProductsCardSaid :=
  Claim7.holds_tied_plain_at .later [] [.data, .data] true (true, "d48ede389e88dea74f13f5841067fcb5a26cf4359f4f8240530e31c2159111da") false over (fun _ h => by cases h) (by kernel_rfl) (fun _ h => by cases h) unitProducts_row_tie rfl ⟨rfl, rfl⟩ (by kernel_rfl) rfl
    (fun f fn hf hfn => by
      obtain rfl : f = 4 := Option.some.inj ((show Tryz.prog.funcNamed "steelyard/steelyardlaw12.UnitProducts" = some 4 by kernel_rfl).symm.trans hf) |>.symm
      obtain rfl : fn = Tryz.f4 := (Option.some.inj (Tryz.func4.symm.trans hfn)).symm
      exact ⟨by kernel_rfl, fun j t ht => by
        rw [Tryz.params4] at ht
        rcases j with _ | _ | j
        all_goals first | (simp at ht; subst ht; kernel_rfl) | (simp at ht)⟩)
    (by kernel_rfl)
#print axioms proved
end Go.Proofs.YtpchdjdochkjpaaGreatDoor.unitProducts
namespace Go.Proofs.YtpchdjdochkjpaaGreatDoor
/-- The row, under a short name, for the claim. -/
theorem unitProducts_holds : Rows.UnitProductsCardSaid := unitProducts.proved
end Go.Proofs.YtpchdjdochkjpaaGreatDoor

-- x
import Derived.Test.YtjgmmaeafodpmaaGreatDoorRows
import Derived.Test.YtjgmmaeafodpmaaGreatDoorPxlawDecimalBounds
import Derived.Test.YtjgmmaeafodpmaaGreatDoorPureDecimalBounds
import Derived.Test.YtjgmmaeafodpmaaGreatDoorYRow
import Derived.Test.YtjgmmaeafodpmaaGreatDoorCards
import Derived.Test.YtjgmmaeafodpmaaGreatDoorTie
import Derived.Test.YtjgmmaeafodpmaaGreatDoorMb
import Derived.Stop.LaidErr
import Derived.Test.YtjgmmaeafodpmaaGreatDoorShelf
import Derived.WalkKit
import Derived.ProofKit
import Derived.OpenShut
import Derived.ShutString
import Derived.ChangeOld
import Derived.Below
import Derived.SizedLaws
import Derived.LaidMore
import Derived.Lib.LaidTab
import Derived.Stop.Joined
import Derived.SevenTiedAt
namespace Go.Proofs.YtjgmmaeafodpmaaGreatDoor.decimalBounds
open Go.ChangeShapes Go.WideShapes Go.ChangeAt Go.RowKit Go.Proofs.YtjgmmaeafodpmaaGreatDoorW.RowWords
open Go.ChangeMaps (open_string shut_string)
set_option linter.unusedVariables false
theorem own : ownKnob Tryz.prog.godebug = none := by kernel_rfl
theorem laidOut : laidOutB Tryz.prog = true := by kernel_rfl
open Go.Proofs.YtjgmmaeafodpmaaGreatDoorW.PrintWords Go.Proofs.YtjgmmaeafodpmaaGreatDoorW.PrintMore
def laid : List (String × DataW Unit) := [("steelyard/digits.tens", Rows.laid_steelyard_digits_tens)]
theorem door_met (os : Os) (args : Array Value) : laidMetH Tryz.prog laid ((World.doorLaid Tryz.prog 400 os).forCall (fun _ _ => 0) ⟨#[], args, []⟩).memory :=
  laidMetH_of_parts3 (fuel := 8) (laidMet_of_run' 8 (by kernel_rfl) (by kernel_rfl)) (by kernel_rfl) (by kernel_rfl)
theorem tab0 {W : World} (h0 : laidMetH Tryz.prog laid W) : Kd.C (Kd.int .u32) W (some ⟨0, 0, none⟩) tab0_.length tab0_ := by
  rw [MakeChecks.laidMetH_plain _ _ _ (by kernel_rfl)] at h0
  have h : laidMet Tryz.prog laid W := h0
  have hT : Lib.TabIs Tryz.prog W "steelyard/digits.tens" .u32 tab0_ := Lib.tabIs_of_head (g := 0) (t := 113) (e := 86) (n := 10) (by kernel_rfl) (by kernel_rfl) Tryz.underlying113 Tryz.underlying86 (by kernel_rfl) (by kernel_rfl) h
  exact Kd.C_of_reads (d := (0 : Int)) (h1 := fun _ => rfl) (show ReadsInt W .u32 (some ⟨0, 0, none⟩) tab0_.length tab0_ from ⟨rfl, by decide, fun _ => ⟨_, rfl, fun j hj => by have h_ := hT.cell (g := 0) (by kernel_rfl) j hj; have e_ : Addr.add ⟨0, 0, none⟩ j = ⟨0, j, none⟩ := (by by_cases z : j = 0 <;> simp [Addr.add, z]); rw [e_]; exact h_⟩⟩)
set_option maxRecDepth 100000 in
theorem lifted (os : Os) (started : os.Started) (H : Type) (enc : TypeId × Value → H) :
    ReturnsInHanded {} Tryz.checked os 10 .any (fun w args => (Rows.decimalBoundsSpec.pre enc Tryz.prog Tryz.f10 [] false w args ∧ laidMetH Tryz.prog laid w) ∧ sizedMet enc Tryz.prog Tryz.f10 (OpenSpec.ofChange Rows.decimalBoundsSpec) false w args) (Rows.decimalBoundsSpec.post enc Tryz.prog Tryz.f10 false true false false) := by
  refine Go.Proofs.YtjgmmaeafodpmaaGreatDoor.Am.returnsInHanded_and_shaped (C := Tryz.checked) (X := fun w _ => laidMetH Tryz.prog laid w) (fun _ _ _ hh h => h.of_heap hh) own started (by kernel_rfl) Tryz.func10
    (ChangeSpec.witness_shaped (enc := enc) (C := Tryz.checked) (os := os) (X := fun w _ => laidMetH Tryz.prog laid w) false (World.doorLaid Tryz.prog 400 os) #[.agg #[.bool false, .slice none 0 0, .slice none 0 0], .int .u8 0] 8 rfl (World.shaped_of_RefB (by kernel_rfl) (by kernel_rfl)) (by kernel_rfl) (by kernel_rfl) (by kernel_rfl) (door_met os _)) ?_
  intro W base args ds gs before hval0 hW hcnd hsz0 hL hsh _
  obtain ⟨mx, hmx⟩ := Tryz.laysM145.s1_3 W hsh
  have hsz : (DataW.weightsEach Tryz.prog (Tryz.f10.params.toList ++ Rows.decimalBoundsSpec.plain.varTypes Tryz.prog) (ds ++ gs)).all (· ≤ reachBytes) = true := hsz0
  have hval : ∀ (j : Nat) t v, Tryz.f10.params[j]? = some t → args[j]? = some v → Value.okWide Tryz.prog W .any base t v := hval0
  have hW' := hW
  obtain ⟨p, q, hA0, hV, rfl, hfz, hnd⟩ := hW
  have hA : DataW.TrodAll enc Tryz.prog W 0 (fun _ => true) true Tryz.f10.params.toList args.toList ds p := hA0
  rw [Tryz.params10] at hA hval hsz
  obtain ⟨v0, vs0, d0, ds0, p0, q0, hargs, rfl, rfl, h0, r0⟩ := trodAll_cons hA
  obtain ⟨v1, vs1, d1, ds1, p1, q1, rfl, rfl, rfl, h1, r1⟩ := trodAll_cons r0
  obtain ⟨rfl, rfl, rfl⟩ := trodAll_nil r1
  obtain rfl : args = #[v0, v1] := by cases args; simp_all
  obtain ⟨rfl, rfl⟩ := trodVars_none hV
  have k0 := h0
  have lt0 : ∀ x ∈ p0, x.block < W.heap.size := by obtain ⟨m, hm⟩ := k0; exact DataW.trod_lt m _ _ _ hm
  have wt0 := arg_weights hsz (j := 0) (t := 27) (d := d0) rfl rfl
  obtain ⟨cs0, rfl, hn0⟩ := okWide_struct Tryz.underlying27 (hval 0 27 v0 rfl rfl)
  obtain ⟨c0_0, c0_1, c0_2, rfl⟩ := cells3 (hn0.trans (by kernel_rfl))
  obtain ⟨fu0, hf0⟩ := h0
  change DataW.trod enc Tryz.prog W 0 (fun _ => true) true fu0 27 [c0_0, c0_1, c0_2] = some (d0, p0) at hf0
  obtain ⟨n0_1, y0_1_, g0_1, e0_1⟩ := field_of Tryz.underlying27 hf0 wt0 0 _ rfl
  replace g0_1 : DataW.trod enc Tryz.prog W 0 (fun _ => true) true n0_1 25 [c0_0, c0_1] = some y0_1_ := by
    have h_ := g0_1
    change DataW.trod enc Tryz.prog W 0 (fun _ => true) true n0_1 25 (((([c0_0, c0_1, _] : List Value)).drop 0).take (Tryz.prog.cellsOf 25)) = some y0_1_ at h_
    rw [show Tryz.prog.cellsOf 25 = 2 from by kernel_rfl] at h_
    exact h_
  obtain ⟨n0_2, y0_2_, g0_2, e0_2⟩ := field_of Tryz.underlying25 g0_1 e0_1 0 _ rfl
  replace g0_2 : DataW.trod enc Tryz.prog W 0 (fun _ => true) true n0_2 4 [c0_0] = some y0_2_ := by
    have h_ := g0_2
    change DataW.trod enc Tryz.prog W 0 (fun _ => true) true n0_2 4 (((([c0_0, _] : List Value)).drop 0).take (Tryz.prog.cellsOf 4)) = some y0_2_ at h_
    rw [show Tryz.prog.cellsOf 4 = 1 from by kernel_rfl] at h_
    exact h_
  obtain ⟨a0_0, hc_⟩ := bool_leaf Tryz.underlying4 g0_2
  subst hc_
  obtain ⟨n0_3, y0_3_, g0_3, e0_3⟩ := field_of Tryz.underlying25 g0_1 e0_1 1 _ rfl
  replace g0_3 : DataW.trod enc Tryz.prog W 0 (fun _ => true) true n0_3 23 [c0_1] = some y0_3_ := by
    have h_ := g0_3
    change DataW.trod enc Tryz.prog W 0 (fun _ => true) true n0_3 23 (((([_, c0_1] : List Value)).drop 1).take (Tryz.prog.cellsOf 23)) = some y0_3_ at h_
    rw [show Tryz.prog.cellsOf 23 = 1 from by kernel_rfl] at h_
    exact h_
  obtain ⟨a0_1, len0_1, cap0_1, z0_1, hc_, w0_1, y0_1⟩ := ints_leaf Tryz.underlying23 Tryz.underlying86 (by kernel_rfl) (B := 4) (by kernel_rfl) g0_3 e0_3
  subst hc_
  obtain ⟨n0_4, y0_4_, g0_4, e0_4⟩ := field_of Tryz.underlying27 hf0 wt0 1 _ rfl
  replace g0_4 : DataW.trod enc Tryz.prog W 0 (fun _ => true) true n0_4 23 [c0_2] = some y0_4_ := by
    have h_ := g0_4
    change DataW.trod enc Tryz.prog W 0 (fun _ => true) true n0_4 23 (((([_, _, c0_2] : List Value)).drop 2).take (Tryz.prog.cellsOf 23)) = some y0_4_ at h_
    rw [show Tryz.prog.cellsOf 23 = 1 from by kernel_rfl] at h_
    exact h_
  obtain ⟨a0_2, len0_2, cap0_2, z0_2, hc_, w0_2, y0_2⟩ := ints_leaf Tryz.underlying23 Tryz.underlying86 (by kernel_rfl) (B := 4) (by kernel_rfl) g0_4 e0_4
  subst hc_
  have k1 := h1
  have lt1 : ∀ x ∈ p1, x.block < W.heap.size := by obtain ⟨m, hm⟩ := k1; exact DataW.trod_lt m _ _ _ hm
  have wt1 := arg_weights hsz (j := 1) (t := 5) (d := d1) rfl rfl
  obtain ⟨b_, rfl⟩ := okWide_int Tryz.underlying5 (hval 1 5 v1 rfl rfl)
  obtain ⟨fu1, hf1⟩ := h1
  obtain ⟨a1, hc_, w1⟩ := int_leaf Tryz.underlying5 hf1
  injection hc_ with e1; subst b_
  clear hA0 hval0 hsz0 hsz
  refine (P.steelyardlaw10_DecimalBounds.walk Pure.DecimalBounds a0_0 a0_1 len0_1 cap0_1 z0_1 a0_2 len0_2 cap0_2 z0_2 a1 W w0_1 y0_1 w0_2 y0_2 w1 (tab0 hL) mx hmx).mono fun e W' ⟨he, bel⟩ => ?_
  subst he
  exact ⟨_, rfl, _, _, _, [], _, [], hW', trodAll_mk1 (shut_bool Tryz.underlying4 _), (trodAll_cons_mk (Below.trod laidOut (by kernel_rfl) (of_decide_eq_true (by kernel_rfl)) k0 bel lt0) (trodAll_cons_mk (Below.trod laidOut (by kernel_rfl) (of_decide_eq_true (by kernel_rfl)) k1 bel lt1) trodAll_mk0)), rfl, bel.frame _, fun h => by cases h⟩
theorem over : Rows.decimalBoundsRow.holds Tryz.pinned (OpenSpec.ofChange Rows.decimalBoundsSpec) :=
  OpenClaim.holds_of_wide 10 Tryz.f10 rfl rfl rfl rfl rfl rfl rfl ⟨rfl, rfl, rfl, rfl, rfl⟩ rfl rfl rfl rfl rfl (by kernel_rfl) Tryz.func10 (by kernel_rfl)
    (of_decide_eq_true (by kernel_rfl)) (by unfold Func.isWrapper; first | (rw [if_pos (by decide +kernel)]; kernel_rfl) | (rw [if_neg (by decide +kernel)]; exact ⟨rfl, rfl⟩))
    (fun os started H enc _ => lifted os started H enc)
theorem proved : Rows.DecimalBoundsCardSaid :=
  Claim7.holds_tied_plain_at .later [] [.data] true (true, "fe3463d5d7a8123e3a1eec861df2bce58e180d0bd23e5d384663b080a3a2b75c") false over (fun _ h => by cases h) (by kernel_rfl) (fun _ h => by cases h) decimalBounds_row_tie rfl ⟨rfl, rfl⟩ (by kernel_rfl) rfl
    (fun f fn hf hfn => by
      obtain rfl : f = 10 := Option.some.inj ((show Tryz.prog.funcNamed "steelyard/steelyardlaw10.DecimalBounds" = some 10 by kernel_rfl).symm.trans hf) |>.symm
      obtain rfl : fn = Tryz.f10 := (Option.some.inj (Tryz.func10.symm.trans hfn)).symm
      exact ⟨by kernel_rfl, fun j t ht => by
        rw [Tryz.params10] at ht
        rcases j with _ | _ | j
        all_goals first | (simp at ht; subst ht; kernel_rfl) | (simp at ht)⟩)
    (by kernel_rfl)
#print axioms proved
end Go.Proofs.YtjgmmaeafodpmaaGreatDoor.decimalBounds
namespace Go.Proofs.YtjgmmaeafodpmaaGreatDoor
/-- The row, under a short name, for the claim. -/
theorem decimalBounds_holds : Rows.DecimalBoundsCardSaid := decimalBounds.proved
end Go.Proofs.YtjgmmaeafodpmaaGreatDoor

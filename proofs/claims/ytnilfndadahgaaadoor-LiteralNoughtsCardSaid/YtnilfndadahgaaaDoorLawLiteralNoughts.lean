-- x
import Derived.Test.YtnilfndadahgaaaDoorRows
import Derived.Test.YtnilfndadahgaaaDoorPxlawLiteralNoughts
import Derived.Test.YtnilfndadahgaaaDoorPureLiteralNoughts
import Derived.Test.YtnilfndadahgaaaDoorYRow
import Derived.Test.YtnilfndadahgaaaDoorCards
import Derived.Test.YtnilfndadahgaaaDoorTie
import Derived.Test.YtnilfndadahgaaaDoorMb
import Derived.Stop.LaidErr
import Derived.Test.YtnilfndadahgaaaDoorShelf
import Derived.WalkKit
import Derived.ProofKit
import Derived.OpenShut
import Derived.ShutString
import Derived.ChangeOld
import Derived.Below
import Derived.SizedLaws
import Derived.LaidMore
import Derived.Lib.LaidTab
import Derived.Stop.Joined
import Derived.SevenTiedAt
namespace Go.Proofs.YtnilfndadahgaaaDoor.literalNoughts
open Go.ChangeShapes Go.WideShapes Go.ChangeAt Go.RowKit Go.Proofs.YtnilfndadahgaaaDoorW.RowWords
open Go.ChangeMaps (open_string shut_string)
set_option linter.unusedVariables false
theorem own : ownKnob Tryd.prog.godebug = none := by kernel_rfl
theorem laidOut : laidOutB Tryd.prog = true := by kernel_rfl
open Go.Proofs.YtnilfndadahgaaaDoorW.PrintWords Go.Proofs.YtnilfndadahgaaaDoorW.PrintMore
def laid : List (String × DataW Unit) := [("steelyard/digits.tens", Rows.laid_steelyard_digits_tens), ("steelyard/literal.digit", Rows.laid_steelyard_literal_digit)]
theorem door_met (os : Os) (args : Array Value) : laidMetH Tryd.prog laid ((World.doorLaid Tryd.prog 400 os).forCall (fun _ _ => 0) ⟨#[], args, []⟩).memory :=
  laidMetH_of_parts3 (fuel := 8) (laidMet_of_run' 8 (by kernel_rfl) (by kernel_rfl)) (by kernel_rfl) (by kernel_rfl)
theorem tab0 {W : World} (h0 : laidMetH Tryd.prog laid W) : Kd.C (Kd.int .u32) W (some ⟨0, 0, none⟩) tab0_.length tab0_ := by
  rw [MakeChecks.laidMetH_plain _ _ _ (by kernel_rfl)] at h0
  have h : laidMet Tryd.prog laid W := h0
  have hT : Lib.TabIs Tryd.prog W "steelyard/digits.tens" .u32 tab0_ := Lib.tabIs_of_head (g := 0) (t := 94) (e := 43) (n := 10) (by kernel_rfl) (by kernel_rfl) Tryd.underlying94 Tryd.underlying43 (by kernel_rfl) (by kernel_rfl) h
  exact Kd.C_of_reads (d := (0 : Int)) (h1 := fun _ => rfl) (show ReadsInt W .u32 (some ⟨0, 0, none⟩) tab0_.length tab0_ from ⟨rfl, by decide, fun _ => ⟨_, rfl, fun j hj => by have h_ := hT.cell (g := 0) (by kernel_rfl) j hj; have e_ : Addr.add ⟨0, 0, none⟩ j = ⟨0, j, none⟩ := (by by_cases z : j = 0 <;> simp [Addr.add, z]); rw [e_]; exact h_⟩⟩)
set_option maxRecDepth 100000 in
theorem tab1 {W : World} (h0 : laidMetH Tryd.prog laid W) : Go.Proofs.YtnilfndadahgaaaDoor.Am.F W (Go.Proofs.YtnilfndadahgaaaDoor.Am.old W) (.fptr (.agg (tab1_.map Go.Proofs.YtnilfndadahgaaaDoor.Am.AV.bool))) (.pointer (some ⟨1, 0, none⟩)) := by
  rw [MakeChecks.laidMetH_plain _ _ _ (by kernel_rfl)] at h0
  have h : laidMet Tryd.prog laid W := h0
  replace h := laidMet.tail h
  exact Go.Proofs.YtnilfndadahgaaaDoor.Am.F_of_btab (zs := tab1_) (by decide +kernel) (g := 1) (t := 115) (e := 4) (n := 256) (by kernel_rfl) (by kernel_rfl) Tryd.underlying115 Tryd.underlying4 (by kernel_rfl) (by kernel_rfl) h
set_option maxRecDepth 100000 in
theorem lifted (os : Os) (started : os.Started) (H : Type) (enc : TypeId × Value → H) :
    ReturnsInHanded {} Tryd.checked os 11 .any (fun w args => (Rows.literalNoughtsSpec.pre enc Tryd.prog Tryd.f11 [] false w args ∧ laidMetH Tryd.prog laid w) ∧ sizedMet enc Tryd.prog Tryd.f11 (OpenSpec.ofChange Rows.literalNoughtsSpec) false w args) (Rows.literalNoughtsSpec.post enc Tryd.prog Tryd.f11 false true false false) := by
  refine Go.Proofs.YtnilfndadahgaaaDoor.Am.returnsInHanded_and_shaped (C := Tryd.checked) (X := fun w _ => laidMetH Tryd.prog laid w) (fun _ _ _ hh h => h.of_heap hh) own started (by kernel_rfl) Tryd.func11
    (ChangeSpec.witness_shaped (enc := enc) (C := Tryd.checked) (os := os) (X := fun w _ => laidMetH Tryd.prog laid w) false (World.doorLaid Tryd.prog 400 os) #[.int .u32 0, .int .u32 0, .agg #[.int .u8 0, .int .u8 0, .int .u8 0]] 8 rfl (World.shaped_of_RefB (by kernel_rfl) (by kernel_rfl)) (by kernel_rfl) (by kernel_rfl) (by kernel_rfl) (door_met os _)) ?_
  intro W base args ds gs before hval0 hW hcnd hsz0 hL hsh _
  obtain ⟨mx, hmx⟩ := Tryd.laysM145.s1_3 W hsh
  have hsz : (DataW.weightsEach Tryd.prog (Tryd.f11.params.toList ++ Rows.literalNoughtsSpec.plain.varTypes Tryd.prog) (ds ++ gs)).all (· ≤ reachBytes) = true := hsz0
  have hval : ∀ (j : Nat) t v, Tryd.f11.params[j]? = some t → args[j]? = some v → Value.okWide Tryd.prog W .any base t v := hval0
  have hW' := hW
  obtain ⟨p, q, hA0, hV, rfl, hfz, hnd⟩ := hW
  have hA : DataW.TrodAll enc Tryd.prog W 0 (fun _ => true) true Tryd.f11.params.toList args.toList ds p := hA0
  rw [Tryd.params11] at hA hval hsz
  obtain ⟨v0, vs0, d0, ds0, p0, q0, hargs, rfl, rfl, h0, r0⟩ := trodAll_cons hA
  obtain ⟨v1, vs1, d1, ds1, p1, q1, rfl, rfl, rfl, h1, r1⟩ := trodAll_cons r0
  obtain ⟨v2, vs2, d2, ds2, p2, q2, rfl, rfl, rfl, h2, r2⟩ := trodAll_cons r1
  obtain ⟨rfl, rfl, rfl⟩ := trodAll_nil r2
  obtain rfl : args = #[v0, v1, v2] := by cases args; simp_all
  obtain ⟨rfl, rfl⟩ := trodVars_none hV
  have k0 := h0
  have lt0 : ∀ x ∈ p0, x.block < W.heap.size := by obtain ⟨m, hm⟩ := k0; exact DataW.trod_lt m _ _ _ hm
  have wt0 := arg_weights hsz (j := 0) (t := 43) (d := d0) rfl rfl
  obtain ⟨b_, rfl⟩ := okWide_int Tryd.underlying43 (hval 0 43 v0 rfl rfl)
  obtain ⟨fu0, hf0⟩ := h0
  obtain ⟨a0, hc_, w0⟩ := int_leaf Tryd.underlying43 hf0
  injection hc_ with e1; subst b_
  have k1 := h1
  have lt1 : ∀ x ∈ p1, x.block < W.heap.size := by obtain ⟨m, hm⟩ := k1; exact DataW.trod_lt m _ _ _ hm
  have wt1 := arg_weights hsz (j := 1) (t := 43) (d := d1) rfl rfl
  obtain ⟨b_, rfl⟩ := okWide_int Tryd.underlying43 (hval 1 43 v1 rfl rfl)
  obtain ⟨fu1, hf1⟩ := h1
  obtain ⟨a1, hc_, w1⟩ := int_leaf Tryd.underlying43 hf1
  injection hc_ with e1; subst b_
  have k2 := h2
  have lt2 : ∀ x ∈ p2, x.block < W.heap.size := by obtain ⟨m, hm⟩ := k2; exact DataW.trod_lt m _ _ _ hm
  have wt2 := arg_weights hsz (j := 2) (t := 61) (d := d2) rfl rfl
  obtain ⟨cs2, rfl, hn2⟩ := okWide_arr Tryd.underlying61 (hval 2 61 v2 rfl rfl)
  obtain ⟨c2_0, c2_1, c2_2, rfl⟩ := cells3 (hn2.trans (by kernel_rfl))
  obtain ⟨fu2, hf2⟩ := h2
  change DataW.trod enc Tryd.prog W 0 (fun _ => true) true fu2 61 [c2_0, c2_1, c2_2] = some (d2, p2) at hf2
  obtain ⟨n2_1, y2_1_, g2_1, e2_1⟩ := elem_of Tryd.underlying61 hf2 wt2 0 (by decide)
  replace g2_1 : DataW.trod enc Tryd.prog W 0 (fun _ => true) true n2_1 5 [c2_0] = some y2_1_ := by
    have h_ := g2_1
    change DataW.trod enc Tryd.prog W 0 (fun _ => true) true n2_1 5 (((([c2_0, _, _] : List Value)).drop 0).take (Tryd.prog.cellsOf 5)) = some y2_1_ at h_
    rw [show Tryd.prog.cellsOf 5 = 1 from by kernel_rfl] at h_
    exact h_
  obtain ⟨a2_0, hc_, w2_0⟩ := int_leaf Tryd.underlying5 g2_1
  subst hc_
  obtain ⟨n2_2, y2_2_, g2_2, e2_2⟩ := elem_of Tryd.underlying61 hf2 wt2 1 (by decide)
  replace g2_2 : DataW.trod enc Tryd.prog W 0 (fun _ => true) true n2_2 5 [c2_1] = some y2_2_ := by
    have h_ := g2_2
    change DataW.trod enc Tryd.prog W 0 (fun _ => true) true n2_2 5 (((([_, c2_1, _] : List Value)).drop 1).take (Tryd.prog.cellsOf 5)) = some y2_2_ at h_
    rw [show Tryd.prog.cellsOf 5 = 1 from by kernel_rfl] at h_
    exact h_
  obtain ⟨a2_1, hc_, w2_1⟩ := int_leaf Tryd.underlying5 g2_2
  subst hc_
  obtain ⟨n2_3, y2_3_, g2_3, e2_3⟩ := elem_of Tryd.underlying61 hf2 wt2 2 (by decide)
  replace g2_3 : DataW.trod enc Tryd.prog W 0 (fun _ => true) true n2_3 5 [c2_2] = some y2_3_ := by
    have h_ := g2_3
    change DataW.trod enc Tryd.prog W 0 (fun _ => true) true n2_3 5 (((([_, _, c2_2] : List Value)).drop 2).take (Tryd.prog.cellsOf 5)) = some y2_3_ at h_
    rw [show Tryd.prog.cellsOf 5 = 1 from by kernel_rfl] at h_
    exact h_
  obtain ⟨a2_2, hc_, w2_2⟩ := int_leaf Tryd.underlying5 g2_3
  subst hc_
  clear hA0 hval0 hsz0 hsz
  refine (P.steelyardlaw09_LiteralNoughts.walk Pure.LiteralNoughts a0 a1 a2_0 a2_1 a2_2 W w0 w1 w2_0 w2_1 w2_2 (tab0 hL) (tab1 hL) mx hmx).mono fun e W' ⟨he, bel⟩ => ?_
  subst he
  exact ⟨_, rfl, _, _, _, [], _, [], hW', trodAll_mk1 (shut_bool Tryd.underlying4 _), (trodAll_cons_mk (Below.trod laidOut (by kernel_rfl) (of_decide_eq_true (by kernel_rfl)) k0 bel lt0) (trodAll_cons_mk (Below.trod laidOut (by kernel_rfl) (of_decide_eq_true (by kernel_rfl)) k1 bel lt1) (trodAll_cons_mk (Below.trod laidOut (by kernel_rfl) (of_decide_eq_true (by kernel_rfl)) k2 bel lt2) trodAll_mk0))), rfl, bel.frame _, fun h => by cases h⟩
theorem over : Rows.literalNoughtsRow.holds Tryd.pinned (OpenSpec.ofChange Rows.literalNoughtsSpec) :=
  OpenClaim.holds_of_wide 11 Tryd.f11 rfl rfl rfl rfl rfl rfl rfl ⟨rfl, rfl, rfl, rfl, rfl⟩ rfl rfl rfl rfl rfl (by kernel_rfl) Tryd.func11 (by kernel_rfl)
    (of_decide_eq_true (by kernel_rfl)) (by unfold Func.isWrapper; first | (rw [if_pos (by decide +kernel)]; kernel_rfl) | (rw [if_neg (by decide +kernel)]; exact ⟨rfl, rfl⟩))
    (fun os started H enc _ => lifted os started H enc)
theorem proved : Rows.LiteralNoughtsCardSaid :=
  Claim7.holds_tied_plain_at .later [] [.data, .data] true (true, "2b3c423332d0deba1a787e633641c1c2565a43613a63edac81f3ed68374c8900") false over (fun _ h => by cases h) (by kernel_rfl) (fun _ h => by cases h) literalNoughts_row_tie rfl ⟨rfl, rfl⟩ (by kernel_rfl) rfl
    (fun f fn hf hfn => by
      obtain rfl : f = 11 := Option.some.inj ((show Tryd.prog.funcNamed "steelyard/steelyardlaw09.LiteralNoughts" = some 11 by kernel_rfl).symm.trans hf) |>.symm
      obtain rfl : fn = Tryd.f11 := (Option.some.inj (Tryd.func11.symm.trans hfn)).symm
      exact ⟨by kernel_rfl, fun j t ht => by
        rw [Tryd.params11] at ht
        rcases j with _ | _ | _ | j
        all_goals first | (simp at ht; subst ht; kernel_rfl) | (simp at ht)⟩)
    (by kernel_rfl)
#print axioms proved
end Go.Proofs.YtnilfndadahgaaaDoor.literalNoughts
namespace Go.Proofs.YtnilfndadahgaaaDoor
/-- The row, under a short name, for the claim. -/
theorem literalNoughts_holds : Rows.LiteralNoughtsCardSaid := literalNoughts.proved
end Go.Proofs.YtnilfndadahgaaaDoor

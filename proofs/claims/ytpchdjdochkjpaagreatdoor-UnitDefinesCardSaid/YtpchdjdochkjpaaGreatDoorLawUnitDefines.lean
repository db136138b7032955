-- x
import Derived.Test.YtpchdjdochkjpaaGreatDoorRows
import Derived.Test.YtpchdjdochkjpaaGreatDoorPxlawUnitDefines
import Derived.Test.YtpchdjdochkjpaaGreatDoorPureUnitDefines
import Derived.Test.YtpchdjdochkjpaaGreatDoorYRow
import Derived.Test.YtpchdjdochkjpaaGreatDoorCards
import Derived.Test.YtpchdjdochkjpaaGreatDoorTie
import Derived.Test.YtpchdjdochkjpaaGreatDoorMc
import Derived.Stop.LaidErr
import Derived.WalkKit
import Derived.ProofKit
import Derived.OpenShut
import Derived.ShutString
import Derived.ChangeOld
import Derived.Below
import Derived.SizedLaws
import Derived.LaidMore
import Derived.Lib.LaidTab
import Derived.Stop.Joined
import Derived.SevenTiedAt
namespace Go.Proofs.YtpchdjdochkjpaaGreatDoor.unitDefines
open Go.ChangeShapes Go.WideShapes Go.ChangeAt Go.RowKit Go.Proofs.YtpchdjdochkjpaaGreatDoorW.RowWords
open Go.ChangeMaps (open_string shut_string)
set_option linter.unusedVariables false
theorem own : ownKnob Tryz.prog.godebug = none := by kernel_rfl
theorem laidOut : laidOutB Tryz.prog = true := by kernel_rfl
open Go.Proofs.YtpchdjdochkjpaaGreatDoorW.PrintWords Go.Proofs.YtpchdjdochkjpaaGreatDoorW.PrintMore
def laid : List (String × DataW Unit) := [("steelyard/unit.rows", Rows.laid_steelyard_unit_rows), ("steelyard/unit.prefixes", Rows.laid_steelyard_unit_prefixes)]
theorem door_met (os : Os) (args : Array Value) : laidMetH Tryz.prog laid ((World.doorLaid Tryz.prog 400 os).forCall (fun _ _ => 0) ⟨#[], args, []⟩).memory :=
  laidMetH_of_parts3 (fuel := 8) (laidMet_of_run' 8 (by kernel_rfl) (by kernel_rfl)) (by kernel_rfl) (by kernel_rfl)
set_option maxRecDepth 100000 in
theorem tab0 {W : World} (h0 : laidMetH Tryz.prog laid W) : Go.Proofs.YtpchdjdochkjpaaGreatDoor.Am.F W (Go.Proofs.YtpchdjdochkjpaaGreatDoor.Am.old W) (.fptr (.agg Go.Proofs.YtpchdjdochkjpaaGreatDoor.Am.rowsT)) (.pointer (some ⟨0, 0, none⟩)) := by
  rw [MakeChecks.laidMetH_plain _ _ _ (by kernel_rfl)] at h0
  have h : laidMet Tryz.prog laid W := h0
  exact Go.Proofs.YtpchdjdochkjpaaGreatDoor.Am.F_of_stab (g := 0) (m := 4) (t := 152) (by kernel_rfl) (by kernel_rfl) (by kernel_rfl) (by kernel_rfl) (by kernel_rfl) (by decide +kernel) h
set_option maxRecDepth 100000 in
theorem tab1 {W : World} (h0 : laidMetH Tryz.prog laid W) : Go.Proofs.YtpchdjdochkjpaaGreatDoor.Am.F W (Go.Proofs.YtpchdjdochkjpaaGreatDoor.Am.old W) (.fptr (.agg Go.Proofs.YtpchdjdochkjpaaGreatDoor.Am.pfxT)) (.pointer (some ⟨1, 0, none⟩)) := by
  rw [MakeChecks.laidMetH_plain _ _ _ (by kernel_rfl)] at h0
  have h : laidMet Tryz.prog laid W := h0
  replace h := laidMet.tail h
  exact Go.Proofs.YtpchdjdochkjpaaGreatDoor.Am.F_of_stab (g := 1) (m := 4) (t := 156) (by kernel_rfl) (by kernel_rfl) (by kernel_rfl) (by kernel_rfl) (by kernel_rfl) (by decide +kernel) h
set_option maxRecDepth 100000 in
theorem lifted (os : Os) (started : os.Started) (H : Type) (enc : TypeId × Value → H) :
    ReturnsInHanded {} Tryz.checked os 7 .any (fun w args => (Rows.unitDefinesSpec.pre enc Tryz.prog Tryz.f7 [] false w args ∧ laidMetH Tryz.prog laid w) ∧ sizedMet enc Tryz.prog Tryz.f7 (OpenSpec.ofChange Rows.unitDefinesSpec) false w args) (Rows.unitDefinesSpec.post enc Tryz.prog Tryz.f7 false true false false) := by
  refine returnsInHanded_of_change_and (C := Tryz.checked) (X := fun w _ => laidMetH Tryz.prog laid w) (fun _ _ _ hh h => h.of_heap hh) own started (by kernel_rfl) Tryz.func7
    (ChangeSpec.witness_shaped (enc := enc) (C := Tryz.checked) (os := os) (X := fun w _ => laidMetH Tryz.prog laid w) false (World.doorLaid Tryz.prog 400 os) #[.string ByteArray.empty, .agg #[.bool false, .slice none 0 0, .slice none 0 0, .int .i64 0, .int .i64 0, .int .i64 0, .int .i64 0, .int .i64 0, .int .i64 0, .int .i64 0]] 8 rfl (World.shaped_of_RefB (by kernel_rfl) (by kernel_rfl)) (by kernel_rfl) (by kernel_rfl) (by kernel_rfl) (door_met os _)) ?_
  intro W base args ds gs before hval0 hW hcnd hsz0 hL _
  have hsz : (DataW.weightsEach Tryz.prog (Tryz.f7.params.toList ++ Rows.unitDefinesSpec.plain.varTypes Tryz.prog) (ds ++ gs)).all (· ≤ reachBytes) = true := hsz0
  have hval : ∀ (j : Nat) t v, Tryz.f7.params[j]? = some t → args[j]? = some v → Value.okWide Tryz.prog W .any base t v := hval0
  have hW' := hW
  obtain ⟨p, q, hA0, hV, rfl, hfz, hnd⟩ := hW
  have hA : DataW.TrodAll enc Tryz.prog W 0 (fun _ => true) true Tryz.f7.params.toList args.toList ds p := hA0
  rw [Tryz.params7] at hA hval hsz
  obtain ⟨v0, vs0, d0, ds0, p0, q0, hargs, rfl, rfl, h0, r0⟩ := trodAll_cons hA
  obtain ⟨v1, vs1, d1, ds1, p1, q1, rfl, rfl, rfl, h1, r1⟩ := trodAll_cons r0
  obtain ⟨rfl, rfl, rfl⟩ := trodAll_nil r1
  obtain rfl : args = #[v0, v1] := by cases args; simp_all
  obtain ⟨rfl, rfl⟩ := trodVars_none hV
  have k0 := h0
  have lt0 : ∀ x ∈ p0, x.block < W.heap.size := by obtain ⟨m, hm⟩ := k0; exact DataW.trod_lt m _ _ _ hm
  have wt0 := arg_weights hsz (j := 0) (t := 9) (d := d0) rfl rfl
  obtain ⟨b_, rfl⟩ := okWide_string Tryz.underlying9 (hval 0 9 v0 rfl rfl)
  obtain ⟨fu0, hf0⟩ := h0
  obtain ⟨a0, hc_, w0⟩ := string_leaf Tryz.underlying9 hf0 wt0
  injection hc_ with e1; subst b_
  have k1 := h1
  have lt1 : ∀ x ∈ p1, x.block < W.heap.size := by obtain ⟨m, hm⟩ := k1; exact DataW.trod_lt m _ _ _ hm
  have wt1 := arg_weights hsz (j := 1) (t := 37) (d := d1) rfl rfl
  obtain ⟨cs1, rfl, hn1⟩ := okWide_struct Tryz.underlying37 (hval 1 37 v1 rfl rfl)
  obtain ⟨c1_0, c1_1, c1_2, c1_3, c1_4, c1_5, c1_6, c1_7, c1_8, c1_9, rfl⟩ := cells10 (hn1.trans (by kernel_rfl))
  obtain ⟨fu1, hf1⟩ := h1
  change DataW.trod enc Tryz.prog W 0 (fun _ => true) true fu1 37 [c1_0, c1_1, c1_2, c1_3, c1_4, c1_5, c1_6, c1_7, c1_8, c1_9] = some (d1, p1) at hf1
  obtain ⟨n1_1, y1_1_, g1_1, e1_1⟩ := field_of Tryz.underlying37 hf1 wt1 0 _ rfl
  replace g1_1 : DataW.trod enc Tryz.prog W 0 (fun _ => true) true n1_1 33 [c1_0, c1_1, c1_2] = some y1_1_ := by
    have h_ := g1_1
    change DataW.trod enc Tryz.prog W 0 (fun _ => true) true n1_1 33 (((([c1_0, c1_1, c1_2, _, _, _, _, _, _, _] : List Value)).drop 0).take (Tryz.prog.cellsOf 33)) = some y1_1_ at h_
    rw [show Tryz.prog.cellsOf 33 = 3 from by kernel_rfl] at h_
    exact h_
  obtain ⟨n1_2, y1_2_, g1_2, e1_2⟩ := field_of Tryz.underlying33 g1_1 e1_1 0 _ rfl
  replace g1_2 : DataW.trod enc Tryz.prog W 0 (fun _ => true) true n1_2 31 [c1_0, c1_1] = some y1_2_ := by
    have h_ := g1_2
    change DataW.trod enc Tryz.prog W 0 (fun _ => true) true n1_2 31 (((([c1_0, c1_1, _] : List Value)).drop 0).take (Tryz.prog.cellsOf 31)) = some y1_2_ at h_
    rw [show Tryz.prog.cellsOf 31 = 2 from by kernel_rfl] at h_
    exact h_
  obtain ⟨n1_3, y1_3_, g1_3, e1_3⟩ := field_of Tryz.underlying31 g1_2 e1_2 0 _ rfl
  replace g1_3 : DataW.trod enc Tryz.prog W 0 (fun _ => true) true n1_3 4 [c1_0] = some y1_3_ := by
    have h_ := g1_3
    change DataW.trod enc Tryz.prog W 0 (fun _ => true) true n1_3 4 (((([c1_0, _] : List Value)).drop 0).take (Tryz.prog.cellsOf 4)) = some y1_3_ at h_
    rw [show Tryz.prog.cellsOf 4 = 1 from by kernel_rfl] at h_
    exact h_
  obtain ⟨a1_0, hc_⟩ := bool_leaf Tryz.underlying4 g1_3
  subst hc_
  obtain ⟨n1_4, y1_4_, g1_4, e1_4⟩ := field_of Tryz.underlying31 g1_2 e1_2 1 _ rfl
  replace g1_4 : DataW.trod enc Tryz.prog W 0 (fun _ => true) true n1_4 29 [c1_1] = some y1_4_ := by
    have h_ := g1_4
    change DataW.trod enc Tryz.prog W 0 (fun _ => true) true n1_4 29 (((([_, c1_1] : List Value)).drop 1).take (Tryz.prog.cellsOf 29)) = some y1_4_ at h_
    rw [show Tryz.prog.cellsOf 29 = 1 from by kernel_rfl] at h_
    exact h_
  obtain ⟨a1_1, len1_1, cap1_1, z1_1, hc_, w1_1, y1_1⟩ := ints_leaf Tryz.underlying29 Tryz.underlying84 (by kernel_rfl) (B := 4) (by kernel_rfl) g1_4 e1_4
  subst hc_
  obtain ⟨n1_5, y1_5_, g1_5, e1_5⟩ := field_of Tryz.underlying33 g1_1 e1_1 1 _ rfl
  replace g1_5 : DataW.trod enc Tryz.prog W 0 (fun _ => true) true n1_5 29 [c1_2] = some y1_5_ := by
    have h_ := g1_5
    change DataW.trod enc Tryz.prog W 0 (fun _ => true) true n1_5 29 (((([_, _, c1_2] : List Value)).drop 2).take (Tryz.prog.cellsOf 29)) = some y1_5_ at h_
    rw [show Tryz.prog.cellsOf 29 = 1 from by kernel_rfl] at h_
    exact h_
  obtain ⟨a1_2, len1_2, cap1_2, z1_2, hc_, w1_2, y1_2⟩ := ints_leaf Tryz.underlying29 Tryz.underlying84 (by kernel_rfl) (B := 4) (by kernel_rfl) g1_5 e1_5
  subst hc_
  obtain ⟨n1_6, y1_6_, g1_6, e1_6⟩ := field_of Tryz.underlying37 hf1 wt1 1 _ rfl
  replace g1_6 : DataW.trod enc Tryz.prog W 0 (fun _ => true) true n1_6 35 [c1_3, c1_4, c1_5, c1_6, c1_7, c1_8, c1_9] = some y1_6_ := by
    have h_ := g1_6
    change DataW.trod enc Tryz.prog W 0 (fun _ => true) true n1_6 35 (((([_, _, _, c1_3, c1_4, c1_5, c1_6, c1_7, c1_8, c1_9] : List Value)).drop 3).take (Tryz.prog.cellsOf 35)) = some y1_6_ at h_
    rw [show Tryz.prog.cellsOf 35 = 7 from by kernel_rfl] at h_
    exact h_
  obtain ⟨n1_7, y1_7_, g1_7, e1_7⟩ := elem_of Tryz.underlying35 g1_6 e1_6 0 (by decide)
  replace g1_7 : DataW.trod enc Tryz.prog W 0 (fun _ => true) true n1_7 3 [c1_3] = some y1_7_ := by rw [show Tryz.prog.cellsOf 3 = 1 from by kernel_rfl] at g1_7; exact g1_7
  obtain ⟨a1_3, hc_, w1_3⟩ := int_leaf Tryz.underlying3 g1_7
  subst hc_
  obtain ⟨n1_8, y1_8_, g1_8, e1_8⟩ := elem_of Tryz.underlying35 g1_6 e1_6 1 (by decide)
  replace g1_8 : DataW.trod enc Tryz.prog W 0 (fun _ => true) true n1_8 3 [c1_4] = some y1_8_ := by rw [show Tryz.prog.cellsOf 3 = 1 from by kernel_rfl] at g1_8; exact g1_8
  obtain ⟨a1_4, hc_, w1_4⟩ := int_leaf Tryz.underlying3 g1_8
  subst hc_
  obtain ⟨n1_9, y1_9_, g1_9, e1_9⟩ := elem_of Tryz.underlying35 g1_6 e1_6 2 (by decide)
  replace g1_9 : DataW.trod enc Tryz.prog W 0 (fun _ => true) true n1_9 3 [c1_5] = some y1_9_ := by rw [show Tryz.prog.cellsOf 3 = 1 from by kernel_rfl] at g1_9; exact g1_9
  obtain ⟨a1_5, hc_, w1_5⟩ := int_leaf Tryz.underlying3 g1_9
  subst hc_
  obtain ⟨n1_10, y1_10_, g1_10, e1_10⟩ := elem_of Tryz.underlying35 g1_6 e1_6 3 (by decide)
  replace g1_10 : DataW.trod enc Tryz.prog W 0 (fun _ => true) true n1_10 3 [c1_6] = some y1_10_ := by rw [show Tryz.prog.cellsOf 3 = 1 from by kernel_rfl] at g1_10; exact g1_10
  obtain ⟨a1_6, hc_, w1_6⟩ := int_leaf Tryz.underlying3 g1_10
  subst hc_
  obtain ⟨n1_11, y1_11_, g1_11, e1_11⟩ := elem_of Tryz.underlying35 g1_6 e1_6 4 (by decide)
  replace g1_11 : DataW.trod enc Tryz.prog W 0 (fun _ => true) true n1_11 3 [c1_7] = some y1_11_ := by rw [show Tryz.prog.cellsOf 3 = 1 from by kernel_rfl] at g1_11; exact g1_11
  obtain ⟨a1_7, hc_, w1_7⟩ := int_leaf Tryz.underlying3 g1_11
  subst hc_
  obtain ⟨n1_12, y1_12_, g1_12, e1_12⟩ := elem_of Tryz.underlying35 g1_6 e1_6 5 (by decide)
  replace g1_12 : DataW.trod enc Tryz.prog W 0 (fun _ => true) true n1_12 3 [c1_8] = some y1_12_ := by rw [show Tryz.prog.cellsOf 3 = 1 from by kernel_rfl] at g1_12; exact g1_12
  obtain ⟨a1_8, hc_, w1_8⟩ := int_leaf Tryz.underlying3 g1_12
  subst hc_
  obtain ⟨n1_13, y1_13_, g1_13, e1_13⟩ := elem_of Tryz.underlying35 g1_6 e1_6 6 (by decide)
  replace g1_13 : DataW.trod enc Tryz.prog W 0 (fun _ => true) true n1_13 3 [c1_9] = some y1_13_ := by rw [show Tryz.prog.cellsOf 3 = 1 from by kernel_rfl] at g1_13; exact g1_13
  obtain ⟨a1_9, hc_, w1_9⟩ := int_leaf Tryz.underlying3 g1_13
  subst hc_
  clear hA0 hval0 hsz0 hsz
  refine (P.steelyardlaw12_UnitDefines.walk Pure.UnitDefines a0 a1_0 a1_1 len1_1 cap1_1 z1_1 a1_2 len1_2 cap1_2 z1_2 a1_3 a1_4 a1_5 a1_6 a1_7 a1_8 a1_9 W w0 w1_1 y1_1 w1_2 y1_2 w1_3 w1_4 w1_5 w1_6 w1_7 w1_8 w1_9 (tab0 hL) (tab1 hL)).mono fun e W' ⟨he, bel⟩ => ?_
  subst he
  exact ⟨_, rfl, _, _, _, [], _, [], hW', trodAll_mk1 (shut_bool Tryz.underlying4 _), (trodAll_cons_mk (Below.trod laidOut (by kernel_rfl) (of_decide_eq_true (by kernel_rfl)) k0 bel lt0) (trodAll_cons_mk (Below.trod laidOut (by kernel_rfl) (of_decide_eq_true (by kernel_rfl)) k1 bel lt1) trodAll_mk0)), rfl, bel.frame _, fun h => by cases h⟩
theorem over : Rows.unitDefinesRow.holds Tryz.pinned (OpenSpec.ofChange Rows.unitDefinesSpec) :=
  OpenClaim.holds_of_wide 7 Tryz.f7 rfl rfl rfl rfl rfl rfl rfl ⟨rfl, rfl, rfl, rfl, rfl⟩ rfl rfl rfl rfl rfl (by kernel_rfl) Tryz.func7 (by kernel_rfl)
    (of_decide_eq_true (by kernel_rfl)) (by unfold Func.isWrapper; first | (rw [if_pos (by decide +kernel)]; kernel_rfl) | (rw [if_neg (by decide +kernel)]; exact ⟨rfl, rfl⟩))
    (fun os started H enc _ => lifted os started H enc)
theorem proved : Rows.UnitDefinesCardSaid :=
  Claim7.holds_tied_plain_at .later [] [.data, .data] true (true, "d48ede389e88dea74f13f5841067fcb5a26cf4359f4f8240530e31c2159111da") false over (fun _ h => by cases h) (by kernel_rfl) (fun _ h => by cases h) unitDefines_row_tie rfl ⟨rfl, rfl⟩ (by kernel_rfl) rfl
    (fun f fn hf hfn => by
      obtain rfl : f = 7 := Option.some.inj ((show Tryz.prog.funcNamed "steelyard/steelyardlaw12.UnitDefines" = some 7 by kernel_rfl).symm.trans hf) |>.symm
      obtain rfl : fn = Tryz.f7 := (Option.some.inj (Tryz.func7.symm.trans hfn)).symm
      exact ⟨by kernel_rfl, fun j t ht => by
        rw [Tryz.params7] at ht
        rcases j with _ | _ | j
        all_goals first | (simp at ht; subst ht; kernel_rfl) | (simp at ht)⟩)
    (by kernel_rfl)
#print axioms proved
end Go.Proofs.YtpchdjdochkjpaaGreatDoor.unitDefines
namespace Go.Proofs.YtpchdjdochkjpaaGreatDoor
/-- The row, under a short name, for the claim. -/
theorem unitDefines_holds : Rows.UnitDefinesCardSaid := unitDefines.proved
end Go.Proofs.YtpchdjdochkjpaaGreatDoor

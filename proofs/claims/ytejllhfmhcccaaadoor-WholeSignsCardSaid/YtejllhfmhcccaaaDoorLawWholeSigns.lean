-- Written by a program of this session (wip/tool), turned from the kit's print. Lean checks it.
import Derived.Test.YtejllhfmhcccaaaDoorRows
import Derived.Test.YtejllhfmhcccaaaDoorPxlawWholeSigns
import Derived.Test.YtejllhfmhcccaaaDoorPureWholeSigns
import Derived.Test.YtejllhfmhcccaaaDoorYRow
import Derived.Test.YtejllhfmhcccaaaDoorCards
import Derived.Test.YtejllhfmhcccaaaDoorTie
import Derived.WalkKit
import Derived.ProofKit
import Derived.OpenShut
import Derived.ShutString
import Derived.ChangeOld
import Derived.Below
import Derived.SizedLaws
import Derived.LaidMore
import Derived.Lib.LaidTab
import Derived.Stop.Joined
import Derived.SevenTiedAt
namespace Go.Proofs.YtejllhfmhcccaaaDoor.wholeSigns
open Go.ChangeShapes Go.WideShapes Go.ChangeAt Go.RowKit Go.Proofs.YtejllhfmhcccaaaDoorW.RowWords
open Go.ChangeMaps (open_string shut_string)
set_option linter.unusedVariables false
theorem own : ownKnob Tryd.prog.godebug = none := by kernel_rfl
theorem laidOut : laidOutB Tryd.prog = true := by kernel_rfl
open Go.Proofs.YtejllhfmhcccaaaDoorW.PrintWords Go.Proofs.YtejllhfmhcccaaaDoorW.PrintMore
def laid : List (String × DataW Unit) := [("steelyard/digits.tens", Rows.laid_steelyard_digits_tens)]
theorem door_met (os : Os) (args : Array Value) : laidMetH Tryd.prog laid ((World.doorLaid Tryd.prog 400 os).forCall (fun _ _ => 0) ⟨#[], args, []⟩).memory :=
  laidMetH_of_parts3 (fuel := 8) (laidMet_of_run' 8 (by kernel_rfl) (by kernel_rfl)) (by kernel_rfl) (by kernel_rfl)
theorem tab0 {W : World} (h0 : laidMetH Tryd.prog laid W) : Kd.C (Kd.int .u32) W (some ⟨0, 0, none⟩) tab0_.length tab0_ := by
  rw [MakeChecks.laidMetH_plain _ _ _ (by kernel_rfl)] at h0
  have h : laidMet Tryd.prog laid W := h0
  have hT : Lib.TabIs Tryd.prog W "steelyard/digits.tens" .u32 tab0_ := Lib.tabIs_of_head (g := 0) (t := 61) (e := 32) (n := 10) (by kernel_rfl) (by kernel_rfl) Tryd.underlying61 Tryd.underlying32 (by kernel_rfl) (by kernel_rfl) h
  exact Kd.C_of_reads (d := (0 : Int)) (h1 := fun _ => rfl) (show ReadsInt W .u32 (some ⟨0, 0, none⟩) tab0_.length tab0_ from ⟨rfl, by decide, fun _ => ⟨_, rfl, fun j hj => by have h_ := hT.cell (g := 0) (by kernel_rfl) j hj; have e_ : Addr.add ⟨0, 0, none⟩ j = ⟨0, j, none⟩ := (by by_cases z : j = 0 <;> simp [Addr.add, z]); rw [e_]; exact h_⟩⟩)
set_option maxRecDepth 100000 in
theorem lifted (os : Os) (started : os.Started) (H : Type) (enc : TypeId × Value → H) :
    ReturnsInHanded {} Tryd.checked os 3 .any (fun w args => (Rows.wholeSignsSpec.pre enc Tryd.prog Tryd.f3 [] false w args ∧ laidMetH Tryd.prog laid w) ∧ sizedMet enc Tryd.prog Tryd.f3 (OpenSpec.ofChange Rows.wholeSignsSpec) false w args) (Rows.wholeSignsSpec.post enc Tryd.prog Tryd.f3 false true false false) := by
  refine returnsInHanded_of_change_and (C := Tryd.checked) (X := fun w _ => laidMetH Tryd.prog laid w) (fun _ _ _ hh h => h.of_heap hh) own started (by kernel_rfl) Tryd.func3
    (ChangeSpec.witness_shaped (enc := enc) (C := Tryd.checked) (os := os) (X := fun w _ => laidMetH Tryd.prog laid w) false (World.doorLaid Tryd.prog 400 os) #[.agg #[.bool false, .slice none 0 0], .agg #[.bool false, .slice none 0 0], .int .u8 0] 8 rfl (World.shaped_of_RefB (by kernel_rfl) (by kernel_rfl)) (by kernel_rfl) (by kernel_rfl) (by kernel_rfl) (door_met os _)) ?_
  intro W base args ds gs before hval0 hW hcnd hsz0 hL _
  have hsz : (DataW.weightsEach Tryd.prog (Tryd.f3.params.toList ++ Rows.wholeSignsSpec.plain.varTypes Tryd.prog) (ds ++ gs)).all (· ≤ reachBytes) = true := hsz0
  have hval : ∀ (j : Nat) t v, Tryd.f3.params[j]? = some t → args[j]? = some v → Value.okWide Tryd.prog W .any base t v := hval0
  have hW' := hW
  obtain ⟨p, q, hA0, hV, rfl, hfz, hnd⟩ := hW
  have hA : DataW.TrodAll enc Tryd.prog W 0 (fun _ => true) true Tryd.f3.params.toList args.toList ds p := hA0
  rw [Tryd.params3] at hA hval hsz
  obtain ⟨v0, vs0, d0, ds0, p0, q0, hargs, rfl, rfl, h0, r0⟩ := trodAll_cons hA
  obtain ⟨v1, vs1, d1, ds1, p1, q1, rfl, rfl, rfl, h1, r1⟩ := trodAll_cons r0
  obtain ⟨v2, vs2, d2, ds2, p2, q2, rfl, rfl, rfl, h2, r2⟩ := trodAll_cons r1
  obtain ⟨rfl, rfl, rfl⟩ := trodAll_nil r2
  obtain rfl : args = #[v0, v1, v2] := by cases args; simp_all
  obtain ⟨rfl, rfl⟩ := trodVars_none hV
  have k0 := h0
  have lt0 : ∀ x ∈ p0, x.block < W.heap.size := by obtain ⟨m, hm⟩ := k0; exact DataW.trod_lt m _ _ _ hm
  have wt0 := arg_weights hsz (j := 0) (t := 25) (d := d0) rfl rfl
  obtain ⟨cs0, rfl, hn0⟩ := okWide_struct Tryd.underlying25 (hval 0 25 v0 rfl rfl)
  obtain ⟨c0_0, c0_1, rfl⟩ := cells2 (hn0.trans (by kernel_rfl))
  obtain ⟨fu0, hf0⟩ := h0
  change DataW.trod enc Tryd.prog W 0 (fun _ => true) true fu0 25 [c0_0, c0_1] = some (d0, p0) at hf0
  obtain ⟨n0_1, y0_1_, g0_1, e0_1⟩ := field_of Tryd.underlying25 hf0 wt0 0 _ rfl
  replace g0_1 : DataW.trod enc Tryd.prog W 0 (fun _ => true) true n0_1 4 [c0_0] = some y0_1_ := by
    have h_ := g0_1
    change DataW.trod enc Tryd.prog W 0 (fun _ => true) true n0_1 4 (((([c0_0, _] : List Value)).drop 0).take (Tryd.prog.cellsOf 4)) = some y0_1_ at h_
    rw [show Tryd.prog.cellsOf 4 = 1 from by kernel_rfl] at h_
    exact h_
  obtain ⟨a0_0, hc_⟩ := bool_leaf Tryd.underlying4 g0_1
  subst hc_
  obtain ⟨n0_2, y0_2_, g0_2, e0_2⟩ := field_of Tryd.underlying25 hf0 wt0 1 _ rfl
  replace g0_2 : DataW.trod enc Tryd.prog W 0 (fun _ => true) true n0_2 23 [c0_1] = some y0_2_ := by
    have h_ := g0_2
    change DataW.trod enc Tryd.prog W 0 (fun _ => true) true n0_2 23 (((([_, c0_1] : List Value)).drop 1).take (Tryd.prog.cellsOf 23)) = some y0_2_ at h_
    rw [show Tryd.prog.cellsOf 23 = 1 from by kernel_rfl] at h_
    exact h_
  obtain ⟨a0_1, len0_1, cap0_1, z0_1, hc_, w0_1, y0_1⟩ := ints_leaf Tryd.underlying23 Tryd.underlying32 (by kernel_rfl) (B := 4) (by kernel_rfl) g0_2 e0_2
  subst hc_
  have k1 := h1
  have lt1 : ∀ x ∈ p1, x.block < W.heap.size := by obtain ⟨m, hm⟩ := k1; exact DataW.trod_lt m _ _ _ hm
  have wt1 := arg_weights hsz (j := 1) (t := 25) (d := d1) rfl rfl
  obtain ⟨cs1, rfl, hn1⟩ := okWide_struct Tryd.underlying25 (hval 1 25 v1 rfl rfl)
  obtain ⟨c1_0, c1_1, rfl⟩ := cells2 (hn1.trans (by kernel_rfl))
  obtain ⟨fu1, hf1⟩ := h1
  change DataW.trod enc Tryd.prog W 0 (fun _ => true) true fu1 25 [c1_0, c1_1] = some (d1, p1) at hf1
  obtain ⟨n1_1, y1_1_, g1_1, e1_1⟩ := field_of Tryd.underlying25 hf1 wt1 0 _ rfl
  replace g1_1 : DataW.trod enc Tryd.prog W 0 (fun _ => true) true n1_1 4 [c1_0] = some y1_1_ := by
    have h_ := g1_1
    change DataW.trod enc Tryd.prog W 0 (fun _ => true) true n1_1 4 (((([c1_0, _] : List Value)).drop 0).take (Tryd.prog.cellsOf 4)) = some y1_1_ at h_
    rw [show Tryd.prog.cellsOf 4 = 1 from by kernel_rfl] at h_
    exact h_
  obtain ⟨a1_0, hc_⟩ := bool_leaf Tryd.underlying4 g1_1
  subst hc_
  obtain ⟨n1_2, y1_2_, g1_2, e1_2⟩ := field_of Tryd.underlying25 hf1 wt1 1 _ rfl
  replace g1_2 : DataW.trod enc Tryd.prog W 0 (fun _ => true) true n1_2 23 [c1_1] = some y1_2_ := by
    have h_ := g1_2
    change DataW.trod enc Tryd.prog W 0 (fun _ => true) true n1_2 23 (((([_, c1_1] : List Value)).drop 1).take (Tryd.prog.cellsOf 23)) = some y1_2_ at h_
    rw [show Tryd.prog.cellsOf 23 = 1 from by kernel_rfl] at h_
    exact h_
  obtain ⟨a1_1, len1_1, cap1_1, z1_1, hc_, w1_1, y1_1⟩ := ints_leaf Tryd.underlying23 Tryd.underlying32 (by kernel_rfl) (B := 4) (by kernel_rfl) g1_2 e1_2
  subst hc_
  have k2 := h2
  have lt2 : ∀ x ∈ p2, x.block < W.heap.size := by obtain ⟨m, hm⟩ := k2; exact DataW.trod_lt m _ _ _ hm
  have wt2 := arg_weights hsz (j := 2) (t := 5) (d := d2) rfl rfl
  obtain ⟨b_, rfl⟩ := okWide_int Tryd.underlying5 (hval 2 5 v2 rfl rfl)
  obtain ⟨fu2, hf2⟩ := h2
  obtain ⟨a2, hc_, w2⟩ := int_leaf Tryd.underlying5 hf2
  injection hc_ with e1; subst b_
  clear hA0 hval0 hsz0 hsz
  refine (P.steelyardlaw06_WholeSigns.walk Pure.WholeSigns a0_0 a0_1 len0_1 cap0_1 z0_1 a1_0 a1_1 len1_1 cap1_1 z1_1 a2 W w0_1 y0_1 w1_1 y1_1 w2 (tab0 hL)).mono fun e W' ⟨he, bel⟩ => ?_
  subst he
  exact ⟨_, rfl, _, _, _, [], _, [], hW', trodAll_mk1 (shut_bool Tryd.underlying4 _), (trodAll_cons_mk (Below.trod laidOut (by kernel_rfl) (of_decide_eq_true (by kernel_rfl)) k0 bel lt0) (trodAll_cons_mk (Below.trod laidOut (by kernel_rfl) (of_decide_eq_true (by kernel_rfl)) k1 bel lt1) (trodAll_cons_mk (Below.trod laidOut (by kernel_rfl) (of_decide_eq_true (by kernel_rfl)) k2 bel lt2) trodAll_mk0))), rfl, bel.frame _, fun h => by cases h⟩
theorem over : Rows.wholeSignsRow.holds Tryd.pinned (OpenSpec.ofChange Rows.wholeSignsSpec) :=
  OpenClaim.holds_of_wide 3 Tryd.f3 rfl rfl rfl rfl rfl rfl rfl ⟨rfl, rfl, rfl, rfl, rfl⟩ rfl rfl rfl rfl rfl (by kernel_rfl) Tryd.func3 (by kernel_rfl)
    (of_decide_eq_true (by kernel_rfl)) (by unfold Func.isWrapper; first | (rw [if_pos (by decide +kernel)]; kernel_rfl) | (rw [if_neg (by decide +kernel)]; exact ⟨rfl, rfl⟩))
    (fun os started H enc _ => lifted os started H enc)
theorem proved : Rows.WholeSignsCardSaid :=
  Claim7.holds_tied_plain_at .later [] [.data] true (true, "28666418106aefe834d2a36e5764a1bc48428f137e1b2806cdaa9601a7501d30") false over (fun _ h => by cases h) (by kernel_rfl) (fun _ h => by cases h) wholeSigns_row_tie rfl ⟨rfl, rfl⟩ (by kernel_rfl) rfl
    (fun f fn hf hfn => by
      obtain rfl : f = 3 := Option.some.inj ((show Tryd.prog.funcNamed "steelyard/steelyardlaw06.WholeSigns" = some 3 by kernel_rfl).symm.trans hf) |>.symm
      obtain rfl : fn = Tryd.f3 := (Option.some.inj (Tryd.func3.symm.trans hfn)).symm
      exact ⟨by kernel_rfl, fun j t ht => by
        rw [Tryd.params3] at ht
        rcases j with _ | _ | _ | j
        all_goals first | (simp at ht; subst ht; kernel_rfl) | (simp at ht)⟩)
    (by kernel_rfl)
#print axioms proved
end Go.Proofs.YtejllhfmhcccaaaDoor.wholeSigns
namespace Go.Proofs.YtejllhfmhcccaaaDoor
/-- The row, under a short name, for the claim. -/
theorem wholeSigns_holds : Rows.WholeSignsCardSaid := wholeSigns.proved
end Go.Proofs.YtejllhfmhcccaaaDoor

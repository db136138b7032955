/- Contracts: each Go function of a package comes to its plain function. -/
import Derived.Test.YtnilfndadahgaaaDoorMb
import Derived.Test.YtnilfndadahgaaaDoorPxLWholeTexts
import Derived.Test.YtnilfndadahgaaaDoorHsteelyardlaw06
import Derived.Test.YtnilfndadahgaaaDoorHwhole
import Derived.Test.YtnilfndadahgaaaDoorHsteelyardkeep
set_option linter.unusedVariables false
set_option linter.unusedSimpArgs false
namespace Go.Proofs.YtnilfndadahgaaaDoor.P
open Go Go.RowKit Go.Proofs.YtnilfndadahgaaaDoor.Am Go.Proofs.YtnilfndadahgaaaDoorW.PrintWords Go.Proofs.YtnilfndadahgaaaDoorW.PrintMore
attribute [local irreducible] cpy rd bt strOfNums ByteArray.extract
attribute [local go_sem] List.length_set takeLi catA Int.zero_mul getI0 getI1 rdN cpyL1 tlE m8 strE takeD catE szE takeS beqI bneI List.length_replicate cpyL cpyLi cplE Int.le_refl beqD Int.zero_sub Bool.false_or Bool.or_true List.length_cons List.length_nil getI Int.toNat_zero kl_apply ne_eq not_false_eq_true not_true_eq_false subE actE evE rwE wrE mapE rdE tyE act vl vo bn bnI bnS un cvt idx idxA ld st part setPart ptrFd cut optI lenV mkAgg fillA Pl.at litE deepS deepL deep deepAll srcL srcN cpA apA tags tagS tagOk sizedAs killV killA killS need shE AV.scalar decide_true decide_false cond_true cond_false Bool.and_true Bool.true_and Bool.and_self Bool.not_true Bool.not_false Bool.and_false Bool.false_and Option.isNone_none Option.isNone_some List.map_cons List.map_nil Option.map_some Option.map_none List.getD_cons_zero List.getD_cons_succ List.getElem?_cons_zero List.getElem?_cons_succ List.length_cons List.length_nil List.all_cons List.all_nil List.all_map List.contains_nil List.contains_cons List.flatMap_cons List.flatMap_nil List.nil_append List.cons_append List.append_nil List.set_cons_zero List.set_cons_succ List.take_zero List.take_succ_cons List.drop_zero List.drop_succ_cons List.take_nil List.drop_nil Nat.zero_add Nat.add_zero Nat.sub_zero Function.comp_def bne_self_eq_false
section
variable {R T : Type} {M : Pm} {J : R → AV × List Row} {G G1 G2 : Option R} {k : List Item} {env : Nat → AV} {H : Nat → Option Row} {fr : Nat → Bool} {ops : Array Oper} {idx : List Nat} {i d : Nat} {op : Op} {ty : TypeId} {pos : String} {af : Array Edge}
theorem sBd {p : Bool} {c : Prop} [Decidable c] {todo : List Item} {s : St} (h1 : p = true → decide c = true → Sim M J G1 todo s) (h2 : p = false → decide c = false → Sim M J G1 todo s) (h3 : p = true → decide c = false → Sim M J G2 todo s) (h4 : p = false → decide c = true → Sim M J G2 todo s) : Sim M J (if (p == decide c) = true then G1 else G2) todo s := by
  by_cases hp : p = true
  · by_cases hc : c
    · rw [if_pos (by simp [hp, hc])]; exact h1 hp (decide_eq_true hc)
    · rw [if_neg (by simp [hp, hc])]; exact h3 hp (decide_eq_false hc)
  · have hp := Bool.eq_false_iff.2 hp
    by_cases hc : c
    · rw [if_neg (by simp [hp, hc])]; exact h4 hp (decide_eq_true hc)
    · rw [if_pos (by simp [hp, hc])]; exact h2 hp (decide_eq_false hc)
theorem oBd {p : Bool} {c : Prop} [Decidable c] {s : St} (h1 : p = true → decide c = true → SimO M J ops G1 idx k s) (h2 : p = false → decide c = false → SimO M J ops G1 idx k s) (h3 : p = true → decide c = false → SimO M J ops G2 idx k s) (h4 : p = false → decide c = true → SimO M J ops G2 idx k s) : SimO M J ops (if (p == decide c) = true then G1 else G2) idx k s := by
  by_cases hp : p = true
  · by_cases hc : c
    · rw [if_pos (by simp [hp, hc])]; exact h1 hp (decide_eq_true hc)
    · rw [if_neg (by simp [hp, hc])]; exact h3 hp (decide_eq_false hc)
  · have hp := Bool.eq_false_iff.2 hp
    by_cases hc : c
    · rw [if_neg (by simp [hp, hc])]; exact h4 hp (decide_eq_true hc)
    · rw [if_pos (by simp [hp, hc])]; exact h2 hp (decide_eq_false hc)
end
theorem beqB : (∀ b : Bool, (true == b) = b) ∧ (∀ b : Bool, (false == b) = !b) ∧ (∀ b : Bool, (b == true) = b) ∧ (∀ b : Bool, (b == false) = !b) := by decide
attribute [local go_sem] beqB
set_option maxRecDepth 100000 in
set_option maxHeartbeats 8000000 in
theorem steelyardlaw06_WholeTexts.holds (k : Nat) (a0_0 : Bool) (l0_1 : List Int) (a1_0 : Bool) (l1_1 : List Int) (r : Bool) (h : steelyardlaw06_WholeTexts.f k a0_0 l0_1 a1_0 l1_1 = some r) : Holds Tryd.prog G0 7 [] [.agg [.bool a0_0, .sl 1 (.int .u32 0) (l0_1.map (AV.int .u32))], .agg [.bool a1_0, .sl 1 (.int .u32 0) (l1_1.map (AV.int .u32))]] (.bool r) [] := by
  refine holds_of_sim (fun (r : Bool) => (.bool r, [])) h Tryd.func7 rfl (by kernel_rfl) 68 rfl (by simp) (by simp) [(0, .agg [.bool a0_0, .sl 1 (.int .u32 0) (l0_1.map (AV.int .u32))]), (1, .agg [.bool a1_0, .sl 1 (.int .u32 0) (l1_1.map (AV.int .u32))])] rfl [] rfl [.tmp 4] rfl ?_
  clear h
  unfold steelyardlaw06_WholeTexts.f
  refine sim_mk ?_
  repeat' first
    | ((with_reducible refine gS ?_); first
      | with_reducible refine sim_seq ?_
      | with_reducible refine sim_block ?_
      | with_reducible refine sim_skip ?_
      | with_reducible refine sim_inBlock ?_
      | with_reducible exact sim_none
      | refine sR (h := ?_)
      | refine sX (h := ?_)
      | refine sD (hm := by exact mixed) (h := ?_)
      | ((with_reducible refine sGb ?_); refine sTe (h := ?_))
      | ((with_reducible refine sGb ?_); refine sFd (h := ?_))
      | ((with_reducible refine sGb ?_); refine sTb (h := ?_))
      | ((with_reducible refine sGb ?_); refine sFb (h := ?_))
      | with_reducible refine sIn (fun hb => ?_) (fun hb => ?_)
      | with_reducible refine sBd (fun hb hc => ?_) (fun hb hc => ?_) (fun hb hc => ?_) (fun hb hc => ?_)
      | ((with_reducible refine sGb ?_); refine sIb (fun hb => ?_) (fun hb => ?_))
      | with_reducible refine sIw (fun r1 r2 r3 r4 => ?_)
      | with_reducible refine sIz (fun r1 r2 r3 r4 => ?_)
      | ((with_reducible refine sGi ?_); refine sT (h := ?_))
      | ((with_reducible refine sGi ?_); refine sF' (h := ?_))
      | ((with_reducible refine sGi ?_); refine sI (fun hb hc => ?_) (fun hb hc => ?_))
      | with_reducible refine sim_let ?_
      | refine sY (h := ?_)
      | refine sN (h := ?_)
      | (refine sJ (fun k => steelyardlaw06_WholeTexts.j0 k _ _ _ _ _) rfl (fun k hk => ?_); simp only [steelyardlaw06_WholeTexts.j0, reduceIte, Bool.false_eq_true, decide_eq_true_eq])
      | (refine sJ (fun k => steelyardlaw06_WholeTexts.j1 k _ _ _ _) rfl (fun k hk => ?_); simp only [steelyardlaw06_WholeTexts.j1, reduceIte, Bool.false_eq_true, decide_eq_true_eq])
      | refine sF [] false
      | refine sFe [] false
      | fail)
    | ((with_reducible refine gO ?_); first
      | with_reducible exact simO_none
      | ((with_reducible refine oGb ?_); refine oTe (h := ?_))
      | ((with_reducible refine oGb ?_); refine oFd (h := ?_))
      | ((with_reducible refine oGb ?_); refine oTb (h := ?_))
      | ((with_reducible refine oGb ?_); refine oFb (h := ?_))
      | with_reducible refine oIn (fun hb => ?_) (fun hb => ?_)
      | with_reducible refine oBd (fun hb hc => ?_) (fun hb hc => ?_) (fun hb hc => ?_) (fun hb hc => ?_)
      | ((with_reducible refine oGb ?_); refine oIb (fun hb => ?_) (fun hb => ?_))
      | with_reducible refine oIw (fun r1 r2 r3 r4 => ?_)
      | with_reducible refine oIz (fun r1 r2 r3 r4 => ?_)
      | ((with_reducible refine oGi ?_); refine oT (h := ?_))
      | ((with_reducible refine oGi ?_); refine oF' (h := ?_))
      | ((with_reducible refine oGi ?_); refine oI (fun hb hc => ?_) (fun hb hc => ?_))
      | with_reducible refine simO_let ?_
      | refine simO_nil ?_
      | ((with_reducible refine gC ?_); first
        | refine oC true (hh := fun t ht => steelyardlaw06_Long.holds _ _ t ht) (h := fun t => ?_)
        | refine oCg true (hh := fun t ht => steelyardlaw06_Long.holds _ _ t ht) (h := fun t => ?_)
        | refine oC true (hh := fun t ht => steelyardlaw06_wakes.holds _ t ht) (h := fun t => ?_)
        | refine oCg true (hh := fun t ht => steelyardlaw06_wakes.holds _ t ht) (h := fun t => ?_)
        | refine oC false (hh := fun t ht => whole_Parse.holds _ _ t ht) (h := fun t => ?_)
        | refine oCg false (hh := fun t ht => whole_Parse.holds _ _ t ht) (h := fun t => ?_)
        | refine oC true (hh := fun t ht => steelyardkeep_Int.holds _ _ _ _ _ t ht) (h := fun t => ?_)
        | refine oCg true (hh := fun t ht => steelyardkeep_Int.holds _ _ _ _ _ t ht) (h := fun t => ?_)
        | refine oC false (hh := fun t ht => whole_Neg.holds _ _ _ t ht) (h := fun t => ?_)
        | refine oCg false (hh := fun t ht => whole_Neg.holds _ _ _ t ht) (h := fun t => ?_)
        | refine oC true (hh := fun t ht => whole_Cmp.holds _ _ _ _ _ t ht) (h := fun t => ?_)
        | refine oCg true (hh := fun t ht => whole_Cmp.holds _ _ _ _ _ t ht) (h := fun t => ?_)
        | refine oC true (hh := fun t ht => whole_Text.holds _ _ _ t ht) (h := fun t => ?_)
        | refine oCg true (hh := fun t ht => whole_Text.holds _ _ _ t ht) (h := fun t => ?_)
        | refine oC false (hh := fun t ht => whole_Of.holds _ _ t ht) (h := fun t => ?_)
        | refine oCg false (hh := fun t ht => whole_Of.holds _ _ t ht) (h := fun t => ?_)
        | fail)
      | refine oV (h := ?_)
      | refine oVg (h := ?_)
      | refine oKg (h := ?_)
      | refine oKu (h := ?_)
      | refine oS (h := ?_)
      | refine oN (h := ?_)
      | refine oNg (h := ?_)
      | refine oA (h := ?_)
      | (refine oJ (fun k => steelyardlaw06_WholeTexts.j0 k _ _ _ _ _) rfl (fun k hk => ?_); simp only [steelyardlaw06_WholeTexts.j0, reduceIte, Bool.false_eq_true, decide_eq_true_eq])
      | (refine oJ (fun k => steelyardlaw06_WholeTexts.j1 k _ _ _ _) rfl (fun k hk => ?_); simp only [steelyardlaw06_WholeTexts.j1, reduceIte, Bool.false_eq_true, decide_eq_true_eq])
      | fail)
    | fail

end Go.Proofs.YtnilfndadahgaaaDoor.P

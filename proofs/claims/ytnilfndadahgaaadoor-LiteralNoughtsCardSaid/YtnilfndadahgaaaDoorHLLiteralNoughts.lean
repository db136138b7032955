/- Contracts: each Go function of a package comes to its plain function. -/
import Derived.Test.YtnilfndadahgaaaDoorMb
import Derived.Test.YtnilfndadahgaaaDoorPxLLiteralNoughts
import Derived.Test.YtnilfndadahgaaaDoorHsteelyardlaw09
import Derived.Test.YtnilfndadahgaaaDoorHliteral
import Derived.Test.YtnilfndadahgaaaDoorHsteelyardkeep
import Derived.Test.YtnilfndadahgaaaDoorHrat
set_option linter.unusedVariables false
set_option linter.unusedSimpArgs false
namespace Go.Proofs.YtnilfndadahgaaaDoor.P
open Go Go.RowKit Go.Proofs.YtnilfndadahgaaaDoor.Am Go.Proofs.YtnilfndadahgaaaDoorW.PrintWords Go.Proofs.YtnilfndadahgaaaDoorW.PrintMore
attribute [local irreducible] cpy rd bt strOfNums ByteArray.extract
attribute [local go_sem] List.length_set strOne szS catN List.size_toArray beqB takeLi catA Int.zero_mul getI0 getI1 rdN cpyL1 tlE m8 strE takeD catE szE takeS beqI bneI List.length_replicate cpyL cpyLi cplE Int.le_refl beqD Int.zero_sub Bool.false_or Bool.or_true List.length_cons List.length_nil getI Int.toNat_zero kl_apply ne_eq not_false_eq_true not_true_eq_false subE actE evE rwE wrE mapE rdE tyE act vl voSome voNone bn bnI bnS un cvt idx idxA ld st part setPart ptrFd cutOwn cutStr cutSl optI lenV mkAgg fillA Pl.at litE deepS deepL deep deepAll srcL srcN cpA apA tags tagS tagOk sizedAs killV killA killS need shE AV.scalar decide_true decide_false cond_true cond_false Bool.and_true Bool.true_and Bool.and_self Bool.not_true Bool.not_false Bool.and_false Bool.false_and Option.isNone_none Option.isNone_some List.map_cons List.map_nil Option.map_some Option.map_none List.getD_cons_zero List.getD_cons_succ List.getElem?_cons_zero List.getElem?_cons_succ List.length_cons List.length_nil List.all_cons List.all_nil List.all_map List.contains_nil List.contains_cons List.flatMap_cons List.flatMap_nil List.nil_append List.cons_append List.append_nil List.set_cons_zero List.set_cons_succ List.take_zero List.take_succ_cons List.drop_zero List.drop_succ_cons List.take_nil List.drop_nil Nat.zero_add Nat.add_zero Nat.sub_zero Function.comp_def bne_self_eq_false
set_option maxRecDepth 100000 in
set_option maxHeartbeats 8000000 in
theorem steelyardlaw09_LiteralNoughts.holds {mx : Int} (k : Nat) (a0 : Int) (a1 : Int) (a2_0 : Int) (a2_1 : Int) (a2_2 : Int) (r : Bool) (h : steelyardlaw09_LiteralNoughts.f k a0 a1 a2_0 a2_1 a2_2 = some r) : Holds Tryd.prog (G0 mx) 11 [] [.int .u32 a0, .int .u32 a1, .agg [.int .u8 a2_0, .int .u8 a2_1, .int .u8 a2_2]] (.bool r) [] := by
  refine holds_of_sim (fun (r : Bool) => (.bool r, [])) h Tryd.func11 rfl (by kernel_rfl) 202 rfl (by simp) (by simp) [(0, .int .u32 a0), (1, .int .u32 a1), (2, .agg [.int .u8 a2_0, .int .u8 a2_1, .int .u8 a2_2])] rfl [] rfl [.tmp 6] rfl ?_
  clear h
  unfold steelyardlaw09_LiteralNoughts.f
  refine sim_mk ?_
  repeat' first
    | ((with_reducible refine gS ?_); first
      | with_reducible refine sim_seq ?_
      | with_reducible refine sim_block ?_
      | with_reducible refine sim_skip ?_
      | with_reducible refine sim_inBlock ?_
      | with_reducible exact sim_none
      | refine sR (h := ?_)
      | refine sX (h := ?_)
      | refine sD (hm := by exact mixed) (h := ?_)
      | ((with_reducible refine sGb ?_); refine sTe (h := ?_))
      | ((with_reducible refine sGb ?_); refine sFd (h := ?_))
      | ((with_reducible refine sGb ?_); refine sTb (h := ?_))
      | ((with_reducible refine sGb ?_); refine sFb (h := ?_))
      | with_reducible refine sIn (fun hb => ?_) (fun hb => ?_)
      | with_reducible refine sBd (fun hb hc => ?_) (fun hb hc => ?_) (fun hb hc => ?_) (fun hb hc => ?_)
      | ((with_reducible refine sGb ?_); refine sIb (fun hb => ?_) (fun hb => ?_))
      | with_reducible refine sIw (fun r1 r2 r3 r4 => ?_)
      | with_reducible refine sIz (fun r1 r2 r3 r4 => ?_)
      | ((with_reducible refine sGi ?_); refine sT (h := ?_))
      | ((with_reducible refine sGi ?_); refine sF' (h := ?_))
      | ((with_reducible refine sGi ?_); refine sI (fun hb hc => ?_) (fun hb hc => ?_))
      | with_reducible refine sim_let ?_
      | refine sY (h := ?_)
      | refine sN (h := ?_)
      | refine IHl0.out _ (_, _, _, _, _, _, _) _ (by omega) ?_
      | refine IHl1.out _ (_, _, _, _, _, _, _, _, _, _, _, _, _, _, _, _, _, _) _ (by omega) ?_
      | refine IHl2.out _ (_, _, _, _, _, _, _, _, _, _, _, _, _, _, _, _, _, _, _, _, _) _ (by omega) ?_
      | (refine sim_loop (fun k (x : ByteArray × ByteArray × ByteArray × Int × Int × Int × Int) => match x with | (x7, x8, x9, x10, x1681000, x1681001, x1681002) => steelyardlaw09_LiteralNoughts.l0 k x7 x8 x9 x10 x1681000 x1681001 x1681002) (fun x => mkS [(5, .optr 1005 0 0), (7, .str x.1), (8, .str x.2.1), (9, .str x.2.2.1), (10, .int .i64 x.2.2.2.1)] ([] ++ [1005]) [⟨61, 3, (.agg [(.int .u8 0), (.int .u8 0), (.int .u8 0)]), [.agg [.int .u8 x.2.2.2.2.1, .int .u8 x.2.2.2.2.2.1, .int .u8 x.2.2.2.2.2.2]]⟩]) _ (fun ⟨_, _, _, _, _, _, _⟩ => rfl) (fun k hkl0 IH x => ?_) ((_, _, _, _, _, _, _)) ?_; obtain ⟨x7, x8, x9, x10, x1681000, x1681001, x1681002⟩ := x; simp only [steelyardlaw09_LiteralNoughts.l0]; have IHl0 := Hid.mk IH; clear IH; refine sim_mk ?_)
      | (refine sim_loop (fun k (x : ByteArray × Int × Int × Bool × List Int × List Int × Bool × List Int × List Int × Bool × List Int × List Int × Bool × List Int × List Int × Bool × List Int × List Int) => match x with | (x8, x11, x23, x1692000, x1692001, x1692002, x1710000, x1710001, x1710002, x1720000, x1720001, x1720002, x1730000, x1730001, x1730002, x1739000, x1739001, x1739002) => steelyardlaw09_LiteralNoughts.l1 k x8 x11 x23 x1692000 x1692001 x1692002 x1710000 x1710001 x1710002 x1720000 x1720001 x1720002 x1730000 x1730001 x1730002 x1739000 x1739001 x1739002) (fun x => mkS [(12, .optr 1012 0 0), (16, .optr 1016 0 0), (18, .optr 1018 0 0), (20, .optr 1020 0 0), (22, .optr 1022 0 0), (8, .str x.1), (11, .int .i64 x.2.1), (23, .int .i64 x.2.2.1)] ([] ++ [1012, 1016, 1018, 1020, 1022]) [⟨46, 3, (.agg [(.bool false), .nil, .nil]), [.agg [.bool x.2.2.2.1, .sl 1 (.int .u32 0) (x.2.2.2.2.1.map (AV.int .u32)), .sl 1 (.int .u32 0) (x.2.2.2.2.2.1.map (AV.int .u32))]]⟩, ⟨46, 3, (.agg [(.bool false), .nil, .nil]), [.agg [.bool x.2.2.2.2.2.2.1, .sl 1 (.int .u32 0) (x.2.2.2.2.2.2.2.1.map (AV.int .u32)), .sl 1 (.int .u32 0) (x.2.2.2.2.2.2.2.2.1.map (AV.int .u32))]]⟩, ⟨46, 3, (.agg [(.bool false), .nil, .nil]), [.agg [.bool x.2.2.2.2.2.2.2.2.2.1, .sl 1 (.int .u32 0) (x.2.2.2.2.2.2.2.2.2.2.1.map (AV.int .u32)), .sl 1 (.int .u32 0) (x.2.2.2.2.2.2.2.2.2.2.2.1.map (AV.int .u32))]]⟩, ⟨46, 3, (.agg [(.bool false), .nil, .nil]), [.agg [.bool x.2.2.2.2.2.2.2.2.2.2.2.2.1, .sl 1 (.int .u32 0) (x.2.2.2.2.2.2.2.2.2.2.2.2.2.1.map (AV.int .u32)), .sl 1 (.int .u32 0) (x.2.2.2.2.2.2.2.2.2.2.2.2.2.2.1.map (AV.int .u32))]]⟩, ⟨46, 3, (.agg [(.bool false), .nil, .nil]), [.agg [.bool x.2.2.2.2.2.2.2.2.2.2.2.2.2.2.2.1, .sl 1 (.int .u32 0) (x.2.2.2.2.2.2.2.2.2.2.2.2.2.2.2.2.1.map (AV.int .u32)), .sl 1 (.int .u32 0) (x.2.2.2.2.2.2.2.2.2.2.2.2.2.2.2.2.2.map (AV.int .u32))]]⟩]) _ (fun ⟨_, _, _, _, _, _, _, _, _, _, _, _, _, _, _, _, _, _⟩ => rfl) (fun k hkl1 IH x => ?_) ((_, _, _, _, _, _, _, _, _, _, _, _, _, _, _, _, _, _)) ?_; obtain ⟨x8, x11, x23, x1692000, x1692001, x1692002, x1710000, x1710001, x1710002, x1720000, x1720001, x1720002, x1730000, x1730001, x1730002, x1739000, x1739001, x1739002⟩ := x; simp only [steelyardlaw09_LiteralNoughts.l1]; have IHl1 := Hid.mk IH; clear IH; refine sim_mk ?_)
      | (refine sim_loop (fun k (x : Int × Int × Int × Bool × List Int × List Int × Bool × List Int × List Int × Bool × List Int × List Int × Bool × List Int × List Int × Bool × List Int × List Int × Bool × List Int × List Int) => match x with | (x11, x25, x27, x1692000, x1692001, x1692002, x1710000, x1710001, x1710002, x1720000, x1720001, x1720002, x1730000, x1730001, x1730002, x1763000, x1763001, x1763002, x1771000, x1771001, x1771002) => steelyardlaw09_LiteralNoughts.l2 k x11 x25 x27 x1692000 x1692001 x1692002 x1710000 x1710001 x1710002 x1720000 x1720001 x1720002 x1730000 x1730001 x1730002 x1763000 x1763001 x1763002 x1771000 x1771001 x1771002) (fun x => mkS [(12, .optr 1012 0 0), (16, .optr 1016 0 0), (18, .optr 1018 0 0), (20, .optr 1020 0 0), (24, .optr 1024 0 0), (26, .optr 1026 0 0), (11, .int .i64 x.1), (25, .int .i64 x.2.1), (27, .int .i64 x.2.2.1)] ([] ++ [1012, 1016, 1018, 1020, 1024, 1026]) [⟨46, 3, (.agg [(.bool false), .nil, .nil]), [.agg [.bool x.2.2.2.1, .sl 1 (.int .u32 0) (x.2.2.2.2.1.map (AV.int .u32)), .sl 1 (.int .u32 0) (x.2.2.2.2.2.1.map (AV.int .u32))]]⟩, ⟨46, 3, (.agg [(.bool false), .nil, .nil]), [.agg [.bool x.2.2.2.2.2.2.1, .sl 1 (.int .u32 0) (x.2.2.2.2.2.2.2.1.map (AV.int .u32)), .sl 1 (.int .u32 0) (x.2.2.2.2.2.2.2.2.1.map (AV.int .u32))]]⟩, ⟨46, 3, (.agg [(.bool false), .nil, .nil]), [.agg [.bool x.2.2.2.2.2.2.2.2.2.1, .sl 1 (.int .u32 0) (x.2.2.2.2.2.2.2.2.2.2.1.map (AV.int .u32)), .sl 1 (.int .u32 0) (x.2.2.2.2.2.2.2.2.2.2.2.1.map (AV.int .u32))]]⟩, ⟨46, 3, (.agg [(.bool false), .nil, .nil]), [.agg [.bool x.2.2.2.2.2.2.2.2.2.2.2.2.1, .sl 1 (.int .u32 0) (x.2.2.2.2.2.2.2.2.2.2.2.2.2.1.map (AV.int .u32)), .sl 1 (.int .u32 0) (x.2.2.2.2.2.2.2.2.2.2.2.2.2.2.1.map (AV.int .u32))]]⟩, ⟨46, 3, (.agg [(.bool false), .nil, .nil]), [.agg [.bool x.2.2.2.2.2.2.2.2.2.2.2.2.2.2.2.1, .sl 1 (.int .u32 0) (x.2.2.2.2.2.2.2.2.2.2.2.2.2.2.2.2.1.map (AV.int .u32)), .sl 1 (.int .u32 0) (x.2.2.2.2.2.2.2.2.2.2.2.2.2.2.2.2.2.1.map (AV.int .u32))]]⟩, ⟨46, 3, (.agg [(.bool false), .nil, .nil]), [.agg [.bool x.2.2.2.2.2.2.2.2.2.2.2.2.2.2.2.2.2.2.1, .sl 1 (.int .u32 0) (x.2.2.2.2.2.2.2.2.2.2.2.2.2.2.2.2.2.2.2.1.map (AV.int .u32)), .sl 1 (.int .u32 0) (x.2.2.2.2.2.2.2.2.2.2.2.2.2.2.2.2.2.2.2.2.map (AV.int .u32))]]⟩]) _ (fun ⟨_, _, _, _, _, _, _, _, _, _, _, _, _, _, _, _, _, _, _, _, _⟩ => rfl) (fun k hkl2 IH x => ?_) ((_, _, _, _, _, _, _, _, _, _, _, _, _, _, _, _, _, _, _, _, _)) ?_; obtain ⟨x11, x25, x27, x1692000, x1692001, x1692002, x1710000, x1710001, x1710002, x1720000, x1720001, x1720002, x1730000, x1730001, x1730002, x1763000, x1763001, x1763002, x1771000, x1771001, x1771002⟩ := x; simp only [steelyardlaw09_LiteralNoughts.l2]; have IHl2 := Hid.mk IH; clear IH; refine sim_mk ?_)
      | (refine sJ (fun k => steelyardlaw09_LiteralNoughts.j1 k _ _ _ _ _ _ _ _ _ _ _ _ _ _ _) rfl (fun k hk => ?_); simp only [steelyardlaw09_LiteralNoughts.j1, reduceIte, Bool.false_eq_true, decide_eq_true_eq])
      | refine sF [] false
      | refine sFe [] false
      | fail)
    | ((with_reducible refine gO ?_); first
      | with_reducible exact simO_none
      | ((with_reducible refine oGb ?_); refine oTe (h := ?_))
      | ((with_reducible refine oGb ?_); refine oFd (h := ?_))
      | ((with_reducible refine oGb ?_); refine oTb (h := ?_))
      | ((with_reducible refine oGb ?_); refine oFb (h := ?_))
      | with_reducible refine oIn (fun hb => ?_) (fun hb => ?_)
      | with_reducible refine oBd (fun hb hc => ?_) (fun hb hc => ?_) (fun hb hc => ?_) (fun hb hc => ?_)
      | ((with_reducible refine oGb ?_); refine oIb (fun hb => ?_) (fun hb => ?_))
      | with_reducible refine oIw (fun r1 r2 r3 r4 => ?_)
      | with_reducible refine oIz (fun r1 r2 r3 r4 => ?_)
      | ((with_reducible refine oGi ?_); refine oT (h := ?_))
      | ((with_reducible refine oGi ?_); refine oF' (h := ?_))
      | ((with_reducible refine oGi ?_); refine oI (fun hb hc => ?_) (fun hb hc => ?_))
      | with_reducible refine simO_let ?_
      | refine simO_nil ?_
      | ((with_reducible refine gC ?_); first
        | refine oC true (hh := fun t ht => steelyardlaw09_wakes.holds _ t ht) (h := fun t => ?_)
        | refine oCg true (hh := fun t ht => steelyardlaw09_wakes.holds _ t ht) (h := fun t => ?_)
        | refine oC false (hh := fun t ht => literal_Parse.holds _ _ t ht) (h := fun t => ?_)
        | refine oCg false (hh := fun t ht => literal_Parse.holds _ _ t ht) (h := fun t => ?_)
        | refine oC true (hh := fun t ht => steelyardkeep_Rat.holds _ _ _ _ _ _ _ t ht) (h := fun t => ?_)
        | refine oCg true (hh := fun t ht => steelyardkeep_Rat.holds _ _ _ _ _ _ _ t ht) (h := fun t => ?_)
        | refine oC true (hh := fun t ht => steelyardlaw09_dec.holds _ _ t ht) (h := fun t => ?_)
        | refine oCg true (hh := fun t ht => steelyardlaw09_dec.holds _ _ t ht) (h := fun t => ?_)
        | refine oC false (hh := fun t ht => rat_Whole.holds _ _ t ht) (h := fun t => ?_)
        | refine oCg false (hh := fun t ht => rat_Whole.holds _ _ t ht) (h := fun t => ?_)
        | refine oC false (hh := fun t ht => rat_Mul.holds _ _ _ _ _ _ _ t ht) (h := fun t => ?_)
        | refine oCg false (hh := fun t ht => rat_Mul.holds _ _ _ _ _ _ _ t ht) (h := fun t => ?_)
        | refine oC false (hh := fun t ht => rat_Div.holds _ _ _ _ _ _ _ t ht) (h := fun t => ?_)
        | refine oCg false (hh := fun t ht => rat_Div.holds _ _ _ _ _ _ _ t ht) (h := fun t => ?_)
        | fail)
      | refine oV (h := ?_)
      | refine oVg (h := ?_)
      | refine oKg (h := ?_)
      | refine oKu (h := ?_)
      | refine oS (h := ?_)
      | refine oN (h := ?_)
      | refine oNg (h := ?_)
      | refine oA (h := ?_)
      | (refine oJ (fun k => steelyardlaw09_LiteralNoughts.j1 k _ _ _ _ _ _ _ _ _ _ _ _ _ _ _) rfl (fun k hk => ?_); simp only [steelyardlaw09_LiteralNoughts.j1, reduceIte, Bool.false_eq_true, decide_eq_true_eq])
      | fail)
    | ((with_reducible refine gL ?_); first
      | refine lC [] [5] [1005]
      | refine lC [] [12, 16, 18, 20, 22] [1012, 1016, 1018, 1020, 1022]
      | refine lC [] [12, 16, 18, 20, 24, 26] [1012, 1016, 1018, 1020, 1024, 1026]
      | fail)
    | fail

end Go.Proofs.YtnilfndadahgaaaDoor.P

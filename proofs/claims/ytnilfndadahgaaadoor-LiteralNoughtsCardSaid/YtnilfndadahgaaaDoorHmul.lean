/- Contracts: each Go function of a package comes to its plain function. -/
import Derived.Test.YtnilfndadahgaaaDoorMb
import Derived.Test.YtnilfndadahgaaaDoorMx
import Derived.Test.YtnilfndadahgaaaDoorHnat
set_option linter.unusedVariables false
set_option linter.unusedSimpArgs false
namespace Go.Proofs.YtnilfndadahgaaaDoor.P
open Go Go.RowKit Go.Proofs.YtnilfndadahgaaaDoor.Am Go.Proofs.YtnilfndadahgaaaDoorW.PrintWords Go.Proofs.YtnilfndadahgaaaDoorW.PrintMore
attribute [local irreducible] cpy rd bt strOfNums ByteArray.extract
attribute [local go_sem] List.length_set strOne szS catN List.size_toArray beqB takeLi catA Int.zero_mul getI0 getI1 rdN cpyL1 tlE m8 strE takeD catE szE takeS beqI bneI List.length_replicate cpyL cpyLi cplE Int.le_refl beqD Int.zero_sub Bool.false_or Bool.or_true List.length_cons List.length_nil getI Int.toNat_zero kl_apply ne_eq not_false_eq_true not_true_eq_false subE actE evE rwE wrE mapE rdE tyE act vl voSome voNone bn bnI bnS un cvt idx idxA ld st part setPart ptrFd cutOwn cutStr cutSl optI lenV mkAgg fillA Pl.at litE deepS deepL deep deepAll srcL srcN cpA apA tags tagS tagOk sizedAs killV killA killS need shE AV.scalar decide_true decide_false cond_true cond_false Bool.and_true Bool.true_and Bool.and_self Bool.not_true Bool.not_false Bool.and_false Bool.false_and Option.isNone_none Option.isNone_some List.map_cons List.map_nil Option.map_some Option.map_none List.getD_cons_zero List.getD_cons_succ List.getElem?_cons_zero List.getElem?_cons_succ List.length_cons List.length_nil List.all_cons List.all_nil List.all_map List.contains_nil List.contains_cons List.flatMap_cons List.flatMap_nil List.nil_append List.cons_append List.append_nil List.set_cons_zero List.set_cons_succ List.take_zero List.take_succ_cons List.drop_zero List.drop_succ_cons List.take_nil List.drop_nil Nat.zero_add Nat.add_zero Nat.sub_zero Function.comp_def bne_self_eq_false
set_option maxRecDepth 100000 in
set_option maxHeartbeats 8000000 in
theorem mul_Of.holds {mx : Int} (k : Nat) (l0 : List Int) (l1 : List Int) (r : List Int) (h : mul_Of.f k l0 l1 = some r) : Holds Tryd.prog (G0 mx) 58 [] [.sl 1 (.int .u32 0) (l0.map (AV.int .u32)), .sl 1 (.int .u32 0) (l1.map (AV.int .u32))] (.own 0 0 r.length) [⟨43, 1, (.int .u32 0), r.map (AV.int .u32)⟩] := by
  refine holds_of_sim (fun (r : List Int) => (.own 0 0 r.length, [⟨43, 1, (.int .u32 0), r.map (AV.int .u32)⟩])) h Tryd.func58 rfl (by kernel_rfl) 79 rfl (by simp) (by simp) [(0, .sl 1 (.int .u32 0) (l0.map (AV.int .u32))), (1, .sl 1 (.int .u32 0) (l1.map (AV.int .u32)))] rfl [] rfl [.tmp 4] rfl ?_
  clear h
  unfold mul_Of.f
  refine sim_mk ?_
  repeat' first
    | ((with_reducible refine gS ?_); first
      | with_reducible refine sim_seq ?_
      | with_reducible refine sim_block ?_
      | with_reducible refine sim_skip ?_
      | with_reducible refine sim_inBlock ?_
      | with_reducible exact sim_none
      | refine sR (h := ?_)
      | refine sX (h := ?_)
      | refine sD (hm := by exact mixed) (h := ?_)
      | ((with_reducible refine sGb ?_); refine sTe (h := ?_))
      | ((with_reducible refine sGb ?_); refine sFd (h := ?_))
      | ((with_reducible refine sGb ?_); refine sTb (h := ?_))
      | ((with_reducible refine sGb ?_); refine sFb (h := ?_))
      | with_reducible refine sIn (fun hb => ?_) (fun hb => ?_)
      | with_reducible refine sBd (fun hb hc => ?_) (fun hb hc => ?_) (fun hb hc => ?_) (fun hb hc => ?_)
      | ((with_reducible refine sGb ?_); refine sIb (fun hb => ?_) (fun hb => ?_))
      | with_reducible refine sIw (fun r1 r2 r3 r4 => ?_)
      | with_reducible refine sIz (fun r1 r2 r3 r4 => ?_)
      | ((with_reducible refine sGi ?_); refine sT (h := ?_))
      | ((with_reducible refine sGi ?_); refine sF' (h := ?_))
      | ((with_reducible refine sGi ?_); refine sI (fun hb hc => ?_) (fun hb hc => ?_))
      | with_reducible refine sim_let ?_
      | refine sY (h := ?_)
      | refine sN (h := ?_)
      | refine IHl0.out _ (_, _, _, _, _) _ (by omega) ?_
      | refine IHl1.out _ (_, _, _, _, _, _, _, _, _, _, _) _ (by omega) ?_
      | (refine sim_loop (fun k (x : List Int × List Int × List Int × Int × Int) => match x with | (x1, x5, x21, x22, x23) => mul_Of.l0 k x1 x5 x21 x22 x23) (fun x => mkS [(1, .sl 1 (.int .u32 0) (x.1.map (AV.int .u32))), (5, .own 1005 0 x.2.1.length), (21, .sl 1 (.int .u32 0) (x.2.2.1.map (AV.int .u32))), (22, .int .i64 x.2.2.2.1), (23, .int .i64 x.2.2.2.2)] ([] ++ [1005]) [⟨43, 1, (.int .u32 0), x.2.1.map (AV.int .u32)⟩]) _ (fun ⟨_, _, _, _, _⟩ => rfl) (fun k hkl0 IH x => ?_) ((_, _, _, _, _)) ?_; obtain ⟨x1, x5, x21, x22, x23⟩ := x; simp only [mul_Of.l0]; have IHl0 := Hid.mk IH; clear IH; refine sim_mk ?_)
      | (refine sim_loop (fun k (x : List Int × List Int × Int × Int × List Int × Int × List Int × Int × Int × Int × Int) => match x with | (x1, x5, x6, x7, x8, x9, x21, x22, x23, x38, x39) => mul_Of.l1 k x1 x5 x6 x7 x8 x9 x21 x22 x23 x38 x39) (fun x => mkS [(1, .sl 1 (.int .u32 0) (x.1.map (AV.int .u32))), (5, .own 1005 0 x.2.1.length), (6, .int .i64 x.2.2.1), (7, .int .u32 x.2.2.2.1), (8, .own 1008 0 x.2.2.2.2.1.length), (9, .int .u64 x.2.2.2.2.2.1), (21, .sl 1 (.int .u32 0) (x.2.2.2.2.2.2.1.map (AV.int .u32))), (22, .int .i64 x.2.2.2.2.2.2.2.1), (23, .int .i64 x.2.2.2.2.2.2.2.2.1), (38, .int .i64 x.2.2.2.2.2.2.2.2.2.1), (39, .int .i64 x.2.2.2.2.2.2.2.2.2.2)] ([] ++ [1005, 1008]) [⟨43, 1, (.int .u32 0), x.2.1.map (AV.int .u32)⟩, ⟨43, 1, (.int .u32 0), x.2.2.2.2.1.map (AV.int .u32)⟩]) _ (fun ⟨_, _, _, _, _, _, _, _, _, _, _⟩ => rfl) (fun k hkl1 IH x => ?_) ((_, _, _, _, _, _, _, _, _, _, _)) ?_; obtain ⟨x1, x5, x6, x7, x8, x9, x21, x22, x23, x38, x39⟩ := x; simp only [mul_Of.l1]; have IHl1 := Hid.mk IH; clear IH; refine sim_mk ?_)
      | refine sF [] true
      | refine sFe [] true
      | refine sNil 4 3004 ⟨43, 1, (.int .u32 0), []⟩ (h := ?_)
      | fail)
    | ((with_reducible refine gO ?_); first
      | with_reducible exact simO_none
      | ((with_reducible refine oGb ?_); refine oTe (h := ?_))
      | ((with_reducible refine oGb ?_); refine oFd (h := ?_))
      | ((with_reducible refine oGb ?_); refine oTb (h := ?_))
      | ((with_reducible refine oGb ?_); refine oFb (h := ?_))
      | with_reducible refine oIn (fun hb => ?_) (fun hb => ?_)
      | with_reducible refine oBd (fun hb hc => ?_) (fun hb hc => ?_) (fun hb hc => ?_) (fun hb hc => ?_)
      | ((with_reducible refine oGb ?_); refine oIb (fun hb => ?_) (fun hb => ?_))
      | with_reducible refine oIw (fun r1 r2 r3 r4 => ?_)
      | with_reducible refine oIz (fun r1 r2 r3 r4 => ?_)
      | ((with_reducible refine oGi ?_); refine oT (h := ?_))
      | ((with_reducible refine oGi ?_); refine oF' (h := ?_))
      | ((with_reducible refine oGi ?_); refine oI (fun hb hc => ?_) (fun hb hc => ?_))
      | with_reducible refine simO_let ?_
      | refine simO_nil ?_
      | ((with_reducible refine gC ?_); first
        | refine oC true (hh := fun t ht => nat_Trim.holds _ _ t ht) (h := fun t => ?_)
        | refine oCg true (hh := fun t ht => nat_Trim.holds _ _ t ht) (h := fun t => ?_)
        | fail)
      | refine oV (h := ?_)
      | refine oVg (h := ?_)
      | refine oKg (h := ?_)
      | refine oKu (h := ?_)
      | refine oS (h := ?_)
      | refine oN (h := ?_)
      | refine oNg (h := ?_)
      | refine oA (h := ?_)
      | fail)
    | ((with_reducible refine gL ?_); first
      | refine lC [] [5] [1005]
      | (refine lTr 5 (h := ?_); refine lC [] [5] [1005])
      | refine lC [] [5, 8] [1005, 1008]
      | (refine lTr 5 (h := ?_); refine lC [] [5, 8] [1005, 1008])
      | (refine lTr 8 (h := ?_); refine lC [] [5, 8] [1005, 1008])
      | refine lNil 5 2005 ⟨43, 1, (.int .u32 0), []⟩ (h := ?_)
      | refine lNil 8 2008 ⟨43, 1, (.int .u32 0), []⟩ (h := ?_)
      | refine lNilF 1 1 (.int .u32 0) (h := ?_)
      | refine lNilF 21 1 (.int .u32 0) (h := ?_)
      | fail)
    | fail

set_option maxRecDepth 100000 in
set_option maxHeartbeats 8000000 in
theorem mul_Small.holds {mx : Int} (k : Nat) (l0 : List Int) (a1 : Int) (r : List Int) (h : mul_Small.f k l0 a1 = some r) : Holds Tryd.prog (G0 mx) 79 [] [.sl 1 (.int .u32 0) (l0.map (AV.int .u32)), .int .u32 a1] (.own 0 0 r.length) [⟨43, 1, (.int .u32 0), r.map (AV.int .u32)⟩] := by
  refine holds_of_sim (fun (r : List Int) => (.own 0 0 r.length, [⟨43, 1, (.int .u32 0), r.map (AV.int .u32)⟩])) h Tryd.func79 rfl (by kernel_rfl) 9 rfl (by simp) (by simp) [(0, .sl 1 (.int .u32 0) (l0.map (AV.int .u32))), (1, .int .u32 a1)] rfl [] rfl [.tmp 4] rfl ?_
  clear h
  unfold mul_Small.f
  refine sim_mk ?_
  repeat' first
    | ((with_reducible refine gS ?_); first
      | with_reducible refine sim_seq ?_
      | with_reducible refine sim_block ?_
      | with_reducible refine sim_skip ?_
      | with_reducible refine sim_inBlock ?_
      | with_reducible exact sim_none
      | refine sR (h := ?_)
      | refine sX (h := ?_)
      | refine sD (hm := by exact mixed) (h := ?_)
      | ((with_reducible refine sGb ?_); refine sTe (h := ?_))
      | ((with_reducible refine sGb ?_); refine sFd (h := ?_))
      | ((with_reducible refine sGb ?_); refine sTb (h := ?_))
      | ((with_reducible refine sGb ?_); refine sFb (h := ?_))
      | with_reducible refine sIn (fun hb => ?_) (fun hb => ?_)
      | with_reducible refine sBd (fun hb hc => ?_) (fun hb hc => ?_) (fun hb hc => ?_) (fun hb hc => ?_)
      | ((with_reducible refine sGb ?_); refine sIb (fun hb => ?_) (fun hb => ?_))
      | with_reducible refine sIw (fun r1 r2 r3 r4 => ?_)
      | with_reducible refine sIz (fun r1 r2 r3 r4 => ?_)
      | ((with_reducible refine sGi ?_); refine sT (h := ?_))
      | ((with_reducible refine sGi ?_); refine sF' (h := ?_))
      | ((with_reducible refine sGi ?_); refine sI (fun hb hc => ?_) (fun hb hc => ?_))
      | with_reducible refine sim_let ?_
      | refine sY (h := ?_)
      | refine sN (h := ?_)
      | refine sF [] true
      | refine sFe [] true
      | refine sNil 4 3004 ⟨43, 1, (.int .u32 0), []⟩ (h := ?_)
      | fail)
    | ((with_reducible refine gO ?_); first
      | with_reducible exact simO_none
      | ((with_reducible refine oGb ?_); refine oTe (h := ?_))
      | ((with_reducible refine oGb ?_); refine oFd (h := ?_))
      | ((with_reducible refine oGb ?_); refine oTb (h := ?_))
      | ((with_reducible refine oGb ?_); refine oFb (h := ?_))
      | with_reducible refine oIn (fun hb => ?_) (fun hb => ?_)
      | with_reducible refine oBd (fun hb hc => ?_) (fun hb hc => ?_) (fun hb hc => ?_) (fun hb hc => ?_)
      | ((with_reducible refine oGb ?_); refine oIb (fun hb => ?_) (fun hb => ?_))
      | with_reducible refine oIw (fun r1 r2 r3 r4 => ?_)
      | with_reducible refine oIz (fun r1 r2 r3 r4 => ?_)
      | ((with_reducible refine oGi ?_); refine oT (h := ?_))
      | ((with_reducible refine oGi ?_); refine oF' (h := ?_))
      | ((with_reducible refine oGi ?_); refine oI (fun hb hc => ?_) (fun hb hc => ?_))
      | with_reducible refine simO_let ?_
      | refine simO_nil ?_
      | ((with_reducible refine gC ?_); first
        | refine oC true (hh := fun t ht => mul_Of.holds _ _ _ t ht) (h := fun t => ?_)
        | refine oCg true (hh := fun t ht => mul_Of.holds _ _ _ t ht) (h := fun t => ?_)
        | fail)
      | refine oV (h := ?_)
      | refine oVg (h := ?_)
      | refine oKg (h := ?_)
      | refine oKu (h := ?_)
      | refine oS (h := ?_)
      | refine oN (h := ?_)
      | refine oNg (h := ?_)
      | refine oA (h := ?_)
      | fail)
    | fail

set_option maxRecDepth 100000 in
set_option maxHeartbeats 8000000 in
theorem mul_up.holds {mx : Int} (k : Nat) (l0 : List Int) (a1 : Int) (r : List Int) (h : mul_up.f k l0 a1 = some r) : Holds Tryd.prog (G0 mx) 119 [] [.sl 1 (.int .u32 0) (l0.map (AV.int .u32)), .int .i64 a1] (.own 0 0 r.length) [⟨43, 1, (.int .u32 0), r.map (AV.int .u32)⟩] := by
  refine holds_of_sim (fun (r : List Int) => (.own 0 0 r.length, [⟨43, 1, (.int .u32 0), r.map (AV.int .u32)⟩])) h Tryd.func119 rfl (by kernel_rfl) 24 rfl (by simp) (by simp) [(0, .sl 1 (.int .u32 0) (l0.map (AV.int .u32))), (1, .int .i64 a1)] rfl [] rfl [.tmp 4] rfl ?_
  clear h
  unfold mul_up.f
  refine sim_mk ?_
  repeat' first
    | ((with_reducible refine gS ?_); first
      | with_reducible refine sim_seq ?_
      | with_reducible refine sim_block ?_
      | with_reducible refine sim_skip ?_
      | with_reducible refine sim_inBlock ?_
      | with_reducible exact sim_none
      | refine sR (h := ?_)
      | refine sX (h := ?_)
      | refine sD (hm := by exact mixed) (h := ?_)
      | ((with_reducible refine sGb ?_); refine sTe (h := ?_))
      | ((with_reducible refine sGb ?_); refine sFd (h := ?_))
      | ((with_reducible refine sGb ?_); refine sTb (h := ?_))
      | ((with_reducible refine sGb ?_); refine sFb (h := ?_))
      | with_reducible refine sIn (fun hb => ?_) (fun hb => ?_)
      | with_reducible refine sBd (fun hb hc => ?_) (fun hb hc => ?_) (fun hb hc => ?_) (fun hb hc => ?_)
      | ((with_reducible refine sGb ?_); refine sIb (fun hb => ?_) (fun hb => ?_))
      | with_reducible refine sIw (fun r1 r2 r3 r4 => ?_)
      | with_reducible refine sIz (fun r1 r2 r3 r4 => ?_)
      | ((with_reducible refine sGi ?_); refine sT (h := ?_))
      | ((with_reducible refine sGi ?_); refine sF' (h := ?_))
      | ((with_reducible refine sGi ?_); refine sI (fun hb hc => ?_) (fun hb hc => ?_))
      | with_reducible refine sim_let ?_
      | refine sY (h := ?_)
      | refine sN (h := ?_)
      | refine sF [] true
      | refine sFe [] true
      | refine sNil 4 3004 ⟨43, 1, (.int .u32 0), []⟩ (h := ?_)
      | fail)
    | ((with_reducible refine gO ?_); first
      | with_reducible exact simO_none
      | ((with_reducible refine oGb ?_); refine oTe (h := ?_))
      | ((with_reducible refine oGb ?_); refine oFd (h := ?_))
      | ((with_reducible refine oGb ?_); refine oTb (h := ?_))
      | ((with_reducible refine oGb ?_); refine oFb (h := ?_))
      | with_reducible refine oIn (fun hb => ?_) (fun hb => ?_)
      | with_reducible refine oBd (fun hb hc => ?_) (fun hb hc => ?_) (fun hb hc => ?_) (fun hb hc => ?_)
      | ((with_reducible refine oGb ?_); refine oIb (fun hb => ?_) (fun hb => ?_))
      | with_reducible refine oIw (fun r1 r2 r3 r4 => ?_)
      | with_reducible refine oIz (fun r1 r2 r3 r4 => ?_)
      | ((with_reducible refine oGi ?_); refine oT (h := ?_))
      | ((with_reducible refine oGi ?_); refine oF' (h := ?_))
      | ((with_reducible refine oGi ?_); refine oI (fun hb hc => ?_) (fun hb hc => ?_))
      | with_reducible refine simO_let ?_
      | refine simO_nil ?_
      | ((with_reducible refine gC ?_); first
        | refine oC true (hh := fun t ht => mul_Small.holds _ _ _ t ht) (h := fun t => ?_)
        | refine oCg true (hh := fun t ht => mul_Small.holds _ _ _ t ht) (h := fun t => ?_)
        | fail)
      | refine oV (h := ?_)
      | refine oVg (h := ?_)
      | refine oKg (h := ?_)
      | refine oKu (h := ?_)
      | refine oS (h := ?_)
      | refine oN (h := ?_)
      | refine oNg (h := ?_)
      | refine oA (h := ?_)
      | fail)
    | fail

set_option maxRecDepth 100000 in
set_option maxHeartbeats 8000000 in
theorem mul_down.holds {mx : Int} (k : Nat) (l0 : List Int) (a1 : Int) (r : List Int) (h : mul_down.f k l0 a1 = some r) : Holds Tryd.prog (G0 mx) 120 [] [.sl 1 (.int .u32 0) (l0.map (AV.int .u32)), .int .i64 a1] (.own 0 0 r.length) [⟨43, 1, (.int .u32 0), r.map (AV.int .u32)⟩] := by
  refine holds_of_sim (fun (r : List Int) => (.own 0 0 r.length, [⟨43, 1, (.int .u32 0), r.map (AV.int .u32)⟩])) h Tryd.func120 rfl (by kernel_rfl) 53 rfl (by simp) (by simp) [(0, .sl 1 (.int .u32 0) (l0.map (AV.int .u32))), (1, .int .i64 a1)] rfl [] rfl [.tmp 4] rfl ?_
  clear h
  unfold mul_down.f
  refine sim_mk ?_
  repeat' first
    | ((with_reducible refine gS ?_); first
      | with_reducible refine sim_seq ?_
      | with_reducible refine sim_block ?_
      | with_reducible refine sim_skip ?_
      | with_reducible refine sim_inBlock ?_
      | with_reducible exact sim_none
      | refine sR (h := ?_)
      | refine sX (h := ?_)
      | refine sD (hm := by exact mixed) (h := ?_)
      | ((with_reducible refine sGb ?_); refine sTe (h := ?_))
      | ((with_reducible refine sGb ?_); refine sFd (h := ?_))
      | ((with_reducible refine sGb ?_); refine sTb (h := ?_))
      | ((with_reducible refine sGb ?_); refine sFb (h := ?_))
      | with_reducible refine sIn (fun hb => ?_) (fun hb => ?_)
      | with_reducible refine sBd (fun hb hc => ?_) (fun hb hc => ?_) (fun hb hc => ?_) (fun hb hc => ?_)
      | ((with_reducible refine sGb ?_); refine sIb (fun hb => ?_) (fun hb => ?_))
      | with_reducible refine sIw (fun r1 r2 r3 r4 => ?_)
      | with_reducible refine sIz (fun r1 r2 r3 r4 => ?_)
      | ((with_reducible refine sGi ?_); refine sT (h := ?_))
      | ((with_reducible refine sGi ?_); refine sF' (h := ?_))
      | ((with_reducible refine sGi ?_); refine sI (fun hb hc => ?_) (fun hb hc => ?_))
      | with_reducible refine sim_let ?_
      | refine sY (h := ?_)
      | refine sN (h := ?_)
      | refine IHl0.out _ (_, _, _, _) _ (by omega) ?_
      | (refine sim_loop (fun k (x : Int × List Int × Int × Int) => match x with | (x1, x5, x20, x21) => mul_down.l0 k x1 x5 x20 x21) (fun x => mkS [(1, .int .i64 x.1), (5, .own 1005 0 x.2.1.length), (20, .int .i64 x.2.2.1), (21, .int .i64 x.2.2.2)] ([] ++ [1005]) [⟨43, 1, (.int .u32 0), x.2.1.map (AV.int .u32)⟩]) _ (fun ⟨_, _, _, _⟩ => rfl) (fun k hkl0 IH x => ?_) ((_, _, _, _)) ?_; obtain ⟨x1, x5, x20, x21⟩ := x; simp only [mul_down.l0]; have IHl0 := Hid.mk IH; clear IH; refine sim_mk ?_)
      | refine sF [] true
      | refine sFe [] true
      | refine sNil 4 3004 ⟨43, 1, (.int .u32 0), []⟩ (h := ?_)
      | fail)
    | ((with_reducible refine gO ?_); first
      | with_reducible exact simO_none
      | ((with_reducible refine oGb ?_); refine oTe (h := ?_))
      | ((with_reducible refine oGb ?_); refine oFd (h := ?_))
      | ((with_reducible refine oGb ?_); refine oTb (h := ?_))
      | ((with_reducible refine oGb ?_); refine oFb (h := ?_))
      | with_reducible refine oIn (fun hb => ?_) (fun hb => ?_)
      | with_reducible refine oBd (fun hb hc => ?_) (fun hb hc => ?_) (fun hb hc => ?_) (fun hb hc => ?_)
      | ((with_reducible refine oGb ?_); refine oIb (fun hb => ?_) (fun hb => ?_))
      | with_reducible refine oIw (fun r1 r2 r3 r4 => ?_)
      | with_reducible refine oIz (fun r1 r2 r3 r4 => ?_)
      | ((with_reducible refine oGi ?_); refine oT (h := ?_))
      | ((with_reducible refine oGi ?_); refine oF' (h := ?_))
      | ((with_reducible refine oGi ?_); refine oI (fun hb hc => ?_) (fun hb hc => ?_))
      | with_reducible refine simO_let ?_
      | refine simO_nil ?_
      | ((with_reducible refine gC ?_); first
        | refine oC true (hh := fun t ht => nat_Trim.holds _ _ t ht) (h := fun t => ?_)
        | refine oCg true (hh := fun t ht => nat_Trim.holds _ _ t ht) (h := fun t => ?_)
        | fail)
      | refine oV (h := ?_)
      | refine oVg (h := ?_)
      | refine oKg (h := ?_)
      | refine oKu (h := ?_)
      | refine oS (h := ?_)
      | refine oN (h := ?_)
      | refine oNg (h := ?_)
      | refine oA (h := ?_)
      | fail)
    | ((with_reducible refine gL ?_); first
      | refine lC [] [5] [1005]
      | (refine lTr 5 (h := ?_); refine lC [] [5] [1005])
      | refine lNil 5 2005 ⟨43, 1, (.int .u32 0), []⟩ (h := ?_)
      | fail)
    | fail

set_option maxRecDepth 100000 in
set_option maxHeartbeats 8000000 in
theorem mul_Shift.holds {mx : Int} (k : Nat) (l0 : List Int) (a1 : Int) (r : List Int) (h : mul_Shift.f k l0 a1 = some r) : Holds Tryd.prog (G0 mx) 110 [] [.sl 1 (.int .u32 0) (l0.map (AV.int .u32)), .int .i64 a1] (.own 0 0 r.length) [⟨43, 1, (.int .u32 0), r.map (AV.int .u32)⟩] := by
  refine holds_of_sim (fun (r : List Int) => (.own 0 0 r.length, [⟨43, 1, (.int .u32 0), r.map (AV.int .u32)⟩])) h Tryd.func110 rfl (by kernel_rfl) 20 rfl (by simp) (by simp) [(0, .sl 1 (.int .u32 0) (l0.map (AV.int .u32))), (1, .int .i64 a1)] rfl [] rfl [.tmp 4] rfl ?_
  clear h
  unfold mul_Shift.f
  refine sim_mk ?_
  repeat' first
    | ((with_reducible refine gS ?_); first
      | with_reducible refine sim_seq ?_
      | with_reducible refine sim_block ?_
      | with_reducible refine sim_skip ?_
      | with_reducible refine sim_inBlock ?_
      | with_reducible exact sim_none
      | refine sR (h := ?_)
      | refine sX (h := ?_)
      | refine sD (hm := by exact mixed) (h := ?_)
      | ((with_reducible refine sGb ?_); refine sTe (h := ?_))
      | ((with_reducible refine sGb ?_); refine sFd (h := ?_))
      | ((with_reducible refine sGb ?_); refine sTb (h := ?_))
      | ((with_reducible refine sGb ?_); refine sFb (h := ?_))
      | with_reducible refine sIn (fun hb => ?_) (fun hb => ?_)
      | with_reducible refine sBd (fun hb hc => ?_) (fun hb hc => ?_) (fun hb hc => ?_) (fun hb hc => ?_)
      | ((with_reducible refine sGb ?_); refine sIb (fun hb => ?_) (fun hb => ?_))
      | with_reducible refine sIw (fun r1 r2 r3 r4 => ?_)
      | with_reducible refine sIz (fun r1 r2 r3 r4 => ?_)
      | ((with_reducible refine sGi ?_); refine sT (h := ?_))
      | ((with_reducible refine sGi ?_); refine sF' (h := ?_))
      | ((with_reducible refine sGi ?_); refine sI (fun hb hc => ?_) (fun hb hc => ?_))
      | with_reducible refine sim_let ?_
      | refine sY (h := ?_)
      | refine sN (h := ?_)
      | refine sF [] true
      | refine sFe [] true
      | refine sNil 4 3004 ⟨43, 1, (.int .u32 0), []⟩ (h := ?_)
      | fail)
    | ((with_reducible refine gO ?_); first
      | with_reducible exact simO_none
      | ((with_reducible refine oGb ?_); refine oTe (h := ?_))
      | ((with_reducible refine oGb ?_); refine oFd (h := ?_))
      | ((with_reducible refine oGb ?_); refine oTb (h := ?_))
      | ((with_reducible refine oGb ?_); refine oFb (h := ?_))
      | with_reducible refine oIn (fun hb => ?_) (fun hb => ?_)
      | with_reducible refine oBd (fun hb hc => ?_) (fun hb hc => ?_) (fun hb hc => ?_) (fun hb hc => ?_)
      | ((with_reducible refine oGb ?_); refine oIb (fun hb => ?_) (fun hb => ?_))
      | with_reducible refine oIw (fun r1 r2 r3 r4 => ?_)
      | with_reducible refine oIz (fun r1 r2 r3 r4 => ?_)
      | ((with_reducible refine oGi ?_); refine oT (h := ?_))
      | ((with_reducible refine oGi ?_); refine oF' (h := ?_))
      | ((with_reducible refine oGi ?_); refine oI (fun hb hc => ?_) (fun hb hc => ?_))
      | with_reducible refine simO_let ?_
      | refine simO_nil ?_
      | ((with_reducible refine gC ?_); first
        | refine oC true (hh := fun t ht => mul_up.holds _ _ _ t ht) (h := fun t => ?_)
        | refine oCg true (hh := fun t ht => mul_up.holds _ _ _ t ht) (h := fun t => ?_)
        | refine oC true (hh := fun t ht => mul_down.holds _ _ _ t ht) (h := fun t => ?_)
        | refine oCg true (hh := fun t ht => mul_down.holds _ _ _ t ht) (h := fun t => ?_)
        | fail)
      | refine oV (h := ?_)
      | refine oVg (h := ?_)
      | refine oKg (h := ?_)
      | refine oKu (h := ?_)
      | refine oS (h := ?_)
      | refine oN (h := ?_)
      | refine oNg (h := ?_)
      | refine oA (h := ?_)
      | fail)
    | fail

end Go.Proofs.YtnilfndadahgaaaDoor.P

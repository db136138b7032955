/- Contracts: each Go function of a package comes to its plain function. -/
import Derived.Test.YtnilfndadahgaaaDoorMb
import Derived.Test.YtnilfndadahgaaaDoorMx
import Derived.Test.YtnilfndadahgaaaDoorShelf
set_option linter.unusedVariables false
set_option linter.unusedSimpArgs false
namespace Go.Proofs.YtnilfndadahgaaaDoor.P
open Go Go.RowKit Go.Proofs.YtnilfndadahgaaaDoor.Am Go.Proofs.YtnilfndadahgaaaDoorW.PrintWords Go.Proofs.YtnilfndadahgaaaDoorW.PrintMore
attribute [local irreducible] cpy rd bt strOfNums ByteArray.extract
attribute [local go_sem] List.length_set strOne szS catN List.size_toArray beqB takeLi catA Int.zero_mul getI0 getI1 rdN cpyL1 tlE m8 strE takeD catE szE takeS beqI bneI List.length_replicate cpyL cpyLi cplE Int.le_refl beqD Int.zero_sub Bool.false_or Bool.or_true List.length_cons List.length_nil getI Int.toNat_zero kl_apply ne_eq not_false_eq_true not_true_eq_false subE actE evE rwE wrE mapE rdE tyE act vl voSome voNone bn bnI bnS un cvt idx idxA ld st part setPart ptrFd cutOwn cutStr cutSl optI lenV mkAgg fillA Pl.at litE deepS deepL deep deepAll srcL srcN cpA apA tags tagS tagOk sizedAs killV killA killS need shE AV.scalar decide_true decide_false cond_true cond_false Bool.and_true Bool.true_and Bool.and_self Bool.not_true Bool.not_false Bool.and_false Bool.false_and Option.isNone_none Option.isNone_some List.map_cons List.map_nil Option.map_some Option.map_none List.getD_cons_zero List.getD_cons_succ List.getElem?_cons_zero List.getElem?_cons_succ List.length_cons List.length_nil List.all_cons List.all_nil List.all_map List.contains_nil List.contains_cons List.flatMap_cons List.flatMap_nil List.nil_append List.cons_append List.append_nil List.set_cons_zero List.set_cons_succ List.take_zero List.take_succ_cons List.drop_zero List.drop_succ_cons List.take_nil List.drop_nil Nat.zero_add Nat.add_zero Nat.sub_zero Function.comp_def bne_self_eq_false
set_option maxRecDepth 100000 in
set_option maxHeartbeats 8000000 in
theorem stringslite_HasPrefix.holds {mx : Int} (a0 : ByteArray) (a1 : ByteArray) (r : Bool) (h : stringslite_HasPrefix.f a0 a1 = some r) : Holds Tryd.prog (G0 mx) 104 [] [.str a0, .str a1] (.bool r) [] := by
  refine holds_of_sim (fun (r : Bool) => (.bool r, [])) h Tryd.func104 rfl (by kernel_rfl) 18 rfl (by simp) (by simp) [(0, .str a0), (1, .str a1)] rfl [] rfl [.tmp 4] rfl ?_
  clear h
  unfold stringslite_HasPrefix.f
  refine sim_mk ?_
  repeat' first
    | ((with_reducible refine gS ?_); first
      | with_reducible refine sim_seq ?_
      | with_reducible refine sim_block ?_
      | with_reducible refine sim_skip ?_
      | with_reducible refine sim_inBlock ?_
      | with_reducible exact sim_none
      | refine sR (h := ?_)
      | refine sX (h := ?_)
      | refine sD (hm := by exact mixed) (h := ?_)
      | ((with_reducible refine sGb ?_); refine sTe (h := ?_))
      | ((with_reducible refine sGb ?_); refine sFd (h := ?_))
      | ((with_reducible refine sGb ?_); refine sTb (h := ?_))
      | ((with_reducible refine sGb ?_); refine sFb (h := ?_))
      | with_reducible refine sIn (fun hb => ?_) (fun hb => ?_)
      | with_reducible refine sBd (fun hb hc => ?_) (fun hb hc => ?_) (fun hb hc => ?_) (fun hb hc => ?_)
      | ((with_reducible refine sGb ?_); refine sIb (fun hb => ?_) (fun hb => ?_))
      | with_reducible refine sIw (fun r1 r2 r3 r4 => ?_)
      | with_reducible refine sIz (fun r1 r2 r3 r4 => ?_)
      | ((with_reducible refine sGi ?_); refine sT (h := ?_))
      | ((with_reducible refine sGi ?_); refine sF' (h := ?_))
      | ((with_reducible refine sGi ?_); refine sI (fun hb hc => ?_) (fun hb hc => ?_))
      | with_reducible refine sim_let ?_
      | refine sY (h := ?_)
      | refine sN (h := ?_)
      | refine sF [] false
      | refine sFe [] false
      | fail)
    | ((with_reducible refine gO ?_); first
      | with_reducible exact simO_none
      | ((with_reducible refine oGb ?_); refine oTe (h := ?_))
      | ((with_reducible refine oGb ?_); refine oFd (h := ?_))
      | ((with_reducible refine oGb ?_); refine oTb (h := ?_))
      | ((with_reducible refine oGb ?_); refine oFb (h := ?_))
      | with_reducible refine oIn (fun hb => ?_) (fun hb => ?_)
      | with_reducible refine oBd (fun hb hc => ?_) (fun hb hc => ?_) (fun hb hc => ?_) (fun hb hc => ?_)
      | ((with_reducible refine oGb ?_); refine oIb (fun hb => ?_) (fun hb => ?_))
      | with_reducible refine oIw (fun r1 r2 r3 r4 => ?_)
      | with_reducible refine oIz (fun r1 r2 r3 r4 => ?_)
      | ((with_reducible refine oGi ?_); refine oT (h := ?_))
      | ((with_reducible refine oGi ?_); refine oF' (h := ?_))
      | ((with_reducible refine oGi ?_); refine oI (fun hb hc => ?_) (fun hb hc => ?_))
      | with_reducible refine simO_let ?_
      | refine simO_nil ?_
      | refine oV (h := ?_)
      | refine oVg (h := ?_)
      | refine oKg (h := ?_)
      | refine oKu (h := ?_)
      | refine oS (h := ?_)
      | refine oN (h := ?_)
      | refine oNg (h := ?_)
      | refine oA (h := ?_)
      | fail)
    | fail

set_option maxRecDepth 100000 in
set_option maxHeartbeats 8000000 in
theorem stringslite_CutPrefix.holds {mx : Int} (a0 : ByteArray) (a1 : ByteArray) (r : ByteArray × Bool) (h : stringslite_CutPrefix.f a0 a1 = some r) : Holds Tryd.prog (G0 mx) 77 [] [.str a0, .str a1] (.tup [.str r.1, .bool r.2]) [] := by
  refine holds_of_sim (fun (r : ByteArray × Bool) => (.tup [.str r.1, .bool r.2], [])) h Tryd.func77 rfl (by kernel_rfl) 15 rfl (by simp) (by simp) [(0, .str a0), (1, .str a1)] rfl [] rfl [.tmp 4, .tmp 5] rfl ?_
  clear h
  unfold stringslite_CutPrefix.f
  refine sim_mk ?_
  repeat' first
    | ((with_reducible refine gS ?_); first
      | with_reducible refine sim_seq ?_
      | with_reducible refine sim_block ?_
      | with_reducible refine sim_skip ?_
      | with_reducible refine sim_inBlock ?_
      | with_reducible exact sim_none
      | refine sR (h := ?_)
      | refine sX (h := ?_)
      | refine sD (hm := by exact mixed) (h := ?_)
      | ((with_reducible refine sGb ?_); refine sTe (h := ?_))
      | ((with_reducible refine sGb ?_); refine sFd (h := ?_))
      | ((with_reducible refine sGb ?_); refine sTb (h := ?_))
      | ((with_reducible refine sGb ?_); refine sFb (h := ?_))
      | with_reducible refine sIn (fun hb => ?_) (fun hb => ?_)
      | with_reducible refine sBd (fun hb hc => ?_) (fun hb hc => ?_) (fun hb hc => ?_) (fun hb hc => ?_)
      | ((with_reducible refine sGb ?_); refine sIb (fun hb => ?_) (fun hb => ?_))
      | with_reducible refine sIw (fun r1 r2 r3 r4 => ?_)
      | with_reducible refine sIz (fun r1 r2 r3 r4 => ?_)
      | ((with_reducible refine sGi ?_); refine sT (h := ?_))
      | ((with_reducible refine sGi ?_); refine sF' (h := ?_))
      | ((with_reducible refine sGi ?_); refine sI (fun hb hc => ?_) (fun hb hc => ?_))
      | with_reducible refine sim_let ?_
      | refine sY (h := ?_)
      | refine sN (h := ?_)
      | refine sF [] false
      | refine sFe [] false
      | fail)
    | ((with_reducible refine gO ?_); first
      | with_reducible exact simO_none
      | ((with_reducible refine oGb ?_); refine oTe (h := ?_))
      | ((with_reducible refine oGb ?_); refine oFd (h := ?_))
      | ((with_reducible refine oGb ?_); refine oTb (h := ?_))
      | ((with_reducible refine oGb ?_); refine oFb (h := ?_))
      | with_reducible refine oIn (fun hb => ?_) (fun hb => ?_)
      | with_reducible refine oBd (fun hb hc => ?_) (fun hb hc => ?_) (fun hb hc => ?_) (fun hb hc => ?_)
      | ((with_reducible refine oGb ?_); refine oIb (fun hb => ?_) (fun hb => ?_))
      | with_reducible refine oIw (fun r1 r2 r3 r4 => ?_)
      | with_reducible refine oIz (fun r1 r2 r3 r4 => ?_)
      | ((with_reducible refine oGi ?_); refine oT (h := ?_))
      | ((with_reducible refine oGi ?_); refine oF' (h := ?_))
      | ((with_reducible refine oGi ?_); refine oI (fun hb hc => ?_) (fun hb hc => ?_))
      | with_reducible refine simO_let ?_
      | refine simO_nil ?_
      | ((with_reducible refine gC ?_); first
        | refine oC true (hh := fun t ht => stringslite_HasPrefix.holds _ _ t ht) (h := fun t => ?_)
        | refine oCg true (hh := fun t ht => stringslite_HasPrefix.holds _ _ t ht) (h := fun t => ?_)
        | fail)
      | refine oV (h := ?_)
      | refine oVg (h := ?_)
      | refine oKg (h := ?_)
      | refine oKu (h := ?_)
      | refine oS (h := ?_)
      | refine oN (h := ?_)
      | refine oNg (h := ?_)
      | refine oA (h := ?_)
      | fail)
    | fail

set_option maxRecDepth 100000 in
set_option maxHeartbeats 8000000 in
theorem strings_CutPrefix.holds {mx : Int} (a0 : ByteArray) (a1 : ByteArray) (r : ByteArray × Bool) (h : strings_CutPrefix.f a0 a1 = some r) : Holds Tryd.prog (G0 mx) 47 [] [.str a0, .str a1] (.tup [.str r.1, .bool r.2]) [] := by
  refine holds_of_sim (fun (r : ByteArray × Bool) => (.tup [.str r.1, .bool r.2], [])) h Tryd.func47 rfl (by kernel_rfl) 11 rfl (by simp) (by simp) [(0, .str a0), (1, .str a1)] rfl [] rfl [.tmp 4, .tmp 5] rfl ?_
  clear h
  unfold strings_CutPrefix.f
  refine sim_mk ?_
  repeat' first
    | ((with_reducible refine gS ?_); first
      | with_reducible refine sim_seq ?_
      | with_reducible refine sim_block ?_
      | with_reducible refine sim_skip ?_
      | with_reducible refine sim_inBlock ?_
      | with_reducible exact sim_none
      | refine sR (h := ?_)
      | refine sX (h := ?_)
      | refine sD (hm := by exact mixed) (h := ?_)
      | ((with_reducible refine sGb ?_); refine sTe (h := ?_))
      | ((with_reducible refine sGb ?_); refine sFd (h := ?_))
      | ((with_reducible refine sGb ?_); refine sTb (h := ?_))
      | ((with_reducible refine sGb ?_); refine sFb (h := ?_))
      | with_reducible refine sIn (fun hb => ?_) (fun hb => ?_)
      | with_reducible refine sBd (fun hb hc => ?_) (fun hb hc => ?_) (fun hb hc => ?_) (fun hb hc => ?_)
      | ((with_reducible refine sGb ?_); refine sIb (fun hb => ?_) (fun hb => ?_))
      | with_reducible refine sIw (fun r1 r2 r3 r4 => ?_)
      | with_reducible refine sIz (fun r1 r2 r3 r4 => ?_)
      | ((with_reducible refine sGi ?_); refine sT (h := ?_))
      | ((with_reducible refine sGi ?_); refine sF' (h := ?_))
      | ((with_reducible refine sGi ?_); refine sI (fun hb hc => ?_) (fun hb hc => ?_))
      | with_reducible refine sim_let ?_
      | refine sY (h := ?_)
      | refine sN (h := ?_)
      | refine sF [] false
      | refine sFe [] false
      | fail)
    | ((with_reducible refine gO ?_); first
      | with_reducible exact simO_none
      | ((with_reducible refine oGb ?_); refine oTe (h := ?_))
      | ((with_reducible refine oGb ?_); refine oFd (h := ?_))
      | ((with_reducible refine oGb ?_); refine oTb (h := ?_))
      | ((with_reducible refine oGb ?_); refine oFb (h := ?_))
      | with_reducible refine oIn (fun hb => ?_) (fun hb => ?_)
      | with_reducible refine oBd (fun hb hc => ?_) (fun hb hc => ?_) (fun hb hc => ?_) (fun hb hc => ?_)
      | ((with_reducible refine oGb ?_); refine oIb (fun hb => ?_) (fun hb => ?_))
      | with_reducible refine oIw (fun r1 r2 r3 r4 => ?_)
      | with_reducible refine oIz (fun r1 r2 r3 r4 => ?_)
      | ((with_reducible refine oGi ?_); refine oT (h := ?_))
      | ((with_reducible refine oGi ?_); refine oF' (h := ?_))
      | ((with_reducible refine oGi ?_); refine oI (fun hb hc => ?_) (fun hb hc => ?_))
      | with_reducible refine simO_let ?_
      | refine simO_nil ?_
      | ((with_reducible refine gC ?_); first
        | refine oC true (hh := fun t ht => stringslite_CutPrefix.holds _ _ t ht) (h := fun t => ?_)
        | refine oCg true (hh := fun t ht => stringslite_CutPrefix.holds _ _ t ht) (h := fun t => ?_)
        | fail)
      | refine oV (h := ?_)
      | refine oVg (h := ?_)
      | refine oKg (h := ?_)
      | refine oKu (h := ?_)
      | refine oS (h := ?_)
      | refine oN (h := ?_)
      | refine oNg (h := ?_)
      | refine oA (h := ?_)
      | fail)
    | fail

set_option maxRecDepth 100000 in
set_option maxHeartbeats 8000000 in
theorem bits_Add32.holds {mx : Int} (a0 : Int) (a1 : Int) (a2 : Int) (r : Int × Int) (h : bits_Add32.f a0 a1 a2 = some r) : Holds Tryd.prog (G0 mx) 84 [] [.int .u32 a0, .int .u32 a1, .int .u32 a2] (.tup [.int .u32 r.1, .int .u32 r.2]) [] := by
  refine holds_of_sim (fun (r : Int × Int) => (.tup [.int .u32 r.1, .int .u32 r.2], [])) h Tryd.func84 rfl (by kernel_rfl) 22 rfl (by simp) (by simp) [(0, .int .u32 a0), (1, .int .u32 a1), (2, .int .u32 a2)] rfl [] rfl [.tmp 6, .tmp 7] rfl ?_
  clear h
  unfold bits_Add32.f
  refine sim_mk ?_
  repeat' first
    | ((with_reducible refine gS ?_); first
      | with_reducible refine sim_seq ?_
      | with_reducible refine sim_block ?_
      | with_reducible refine sim_skip ?_
      | with_reducible refine sim_inBlock ?_
      | with_reducible exact sim_none
      | refine sR (h := ?_)
      | refine sX (h := ?_)
      | refine sD (hm := by exact mixed) (h := ?_)
      | ((with_reducible refine sGb ?_); refine sTe (h := ?_))
      | ((with_reducible refine sGb ?_); refine sFd (h := ?_))
      | ((with_reducible refine sGb ?_); refine sTb (h := ?_))
      | ((with_reducible refine sGb ?_); refine sFb (h := ?_))
      | with_reducible refine sIn (fun hb => ?_) (fun hb => ?_)
      | with_reducible refine sBd (fun hb hc => ?_) (fun hb hc => ?_) (fun hb hc => ?_) (fun hb hc => ?_)
      | ((with_reducible refine sGb ?_); refine sIb (fun hb => ?_) (fun hb => ?_))
      | with_reducible refine sIw (fun r1 r2 r3 r4 => ?_)
      | with_reducible refine sIz (fun r1 r2 r3 r4 => ?_)
      | ((with_reducible refine sGi ?_); refine sT (h := ?_))
      | ((with_reducible refine sGi ?_); refine sF' (h := ?_))
      | ((with_reducible refine sGi ?_); refine sI (fun hb hc => ?_) (fun hb hc => ?_))
      | with_reducible refine sim_let ?_
      | refine sY (h := ?_)
      | refine sN (h := ?_)
      | refine sF [] false
      | refine sFe [] false
      | fail)
    | ((with_reducible refine gO ?_); first
      | with_reducible exact simO_none
      | ((with_reducible refine oGb ?_); refine oTe (h := ?_))
      | ((with_reducible refine oGb ?_); refine oFd (h := ?_))
      | ((with_reducible refine oGb ?_); refine oTb (h := ?_))
      | ((with_reducible refine oGb ?_); refine oFb (h := ?_))
      | with_reducible refine oIn (fun hb => ?_) (fun hb => ?_)
      | with_reducible refine oBd (fun hb hc => ?_) (fun hb hc => ?_) (fun hb hc => ?_) (fun hb hc => ?_)
      | ((with_reducible refine oGb ?_); refine oIb (fun hb => ?_) (fun hb => ?_))
      | with_reducible refine oIw (fun r1 r2 r3 r4 => ?_)
      | with_reducible refine oIz (fun r1 r2 r3 r4 => ?_)
      | ((with_reducible refine oGi ?_); refine oT (h := ?_))
      | ((with_reducible refine oGi ?_); refine oF' (h := ?_))
      | ((with_reducible refine oGi ?_); refine oI (fun hb hc => ?_) (fun hb hc => ?_))
      | with_reducible refine simO_let ?_
      | refine simO_nil ?_
      | refine oV (h := ?_)
      | refine oVg (h := ?_)
      | refine oKg (h := ?_)
      | refine oKu (h := ?_)
      | refine oS (h := ?_)
      | refine oN (h := ?_)
      | refine oNg (h := ?_)
      | refine oA (h := ?_)
      | fail)
    | fail

set_option maxRecDepth 100000 in
set_option maxHeartbeats 8000000 in
theorem cmp_isNaN_int.holds {mx : Int} (a0 : Int) (r : Bool) (h : cmp_isNaN_int.f a0 = some r) : Holds Tryd.prog (G0 mx) 105 [] [.int .i64 a0] (.bool r) [] := by
  refine holds_of_sim (fun (r : Bool) => (.bool r, [])) h Tryd.func105 rfl (by kernel_rfl) 6 rfl (by simp) (by simp) [(0, .int .i64 a0)] rfl [] rfl [.tmp 2] rfl ?_
  clear h
  unfold cmp_isNaN_int.f
  refine sim_mk ?_
  repeat' first
    | ((with_reducible refine gS ?_); first
      | with_reducible refine sim_seq ?_
      | with_reducible refine sim_block ?_
      | with_reducible refine sim_skip ?_
      | with_reducible refine sim_inBlock ?_
      | with_reducible exact sim_none
      | refine sR (h := ?_)
      | refine sX (h := ?_)
      | refine sD (hm := by exact mixed) (h := ?_)
      | ((with_reducible refine sGb ?_); refine sTe (h := ?_))
      | ((with_reducible refine sGb ?_); refine sFd (h := ?_))
      | ((with_reducible refine sGb ?_); refine sTb (h := ?_))
      | ((with_reducible refine sGb ?_); refine sFb (h := ?_))
      | with_reducible refine sIn (fun hb => ?_) (fun hb => ?_)
      | with_reducible refine sBd (fun hb hc => ?_) (fun hb hc => ?_) (fun hb hc => ?_) (fun hb hc => ?_)
      | ((with_reducible refine sGb ?_); refine sIb (fun hb => ?_) (fun hb => ?_))
      | with_reducible refine sIw (fun r1 r2 r3 r4 => ?_)
      | with_reducible refine sIz (fun r1 r2 r3 r4 => ?_)
      | ((with_reducible refine sGi ?_); refine sT (h := ?_))
      | ((with_reducible refine sGi ?_); refine sF' (h := ?_))
      | ((with_reducible refine sGi ?_); refine sI (fun hb hc => ?_) (fun hb hc => ?_))
      | with_reducible refine sim_let ?_
      | refine sY (h := ?_)
      | refine sN (h := ?_)
      | refine sF [] false
      | refine sFe [] false
      | fail)
    | ((with_reducible refine gO ?_); first
      | with_reducible exact simO_none
      | ((with_reducible refine oGb ?_); refine oTe (h := ?_))
      | ((with_reducible refine oGb ?_); refine oFd (h := ?_))
      | ((with_reducible refine oGb ?_); refine oTb (h := ?_))
      | ((with_reducible refine oGb ?_); refine oFb (h := ?_))
      | with_reducible refine oIn (fun hb => ?_) (fun hb => ?_)
      | with_reducible refine oBd (fun hb hc => ?_) (fun hb hc => ?_) (fun hb hc => ?_) (fun hb hc => ?_)
      | ((with_reducible refine oGb ?_); refine oIb (fun hb => ?_) (fun hb => ?_))
      | with_reducible refine oIw (fun r1 r2 r3 r4 => ?_)
      | with_reducible refine oIz (fun r1 r2 r3 r4 => ?_)
      | ((with_reducible refine oGi ?_); refine oT (h := ?_))
      | ((with_reducible refine oGi ?_); refine oF' (h := ?_))
      | ((with_reducible refine oGi ?_); refine oI (fun hb hc => ?_) (fun hb hc => ?_))
      | with_reducible refine simO_let ?_
      | refine simO_nil ?_
      | refine oV (h := ?_)
      | refine oVg (h := ?_)
      | refine oKg (h := ?_)
      | refine oKu (h := ?_)
      | refine oS (h := ?_)
      | refine oN (h := ?_)
      | refine oNg (h := ?_)
      | refine oA (h := ?_)
      | fail)
    | fail

set_option maxRecDepth 100000 in
set_option maxHeartbeats 8000000 in
theorem cmp_Compare_int.holds {mx : Int} (a0 : Int) (a1 : Int) (r : Int) (h : cmp_Compare_int.f a0 a1 = some r) : Holds Tryd.prog (G0 mx) 89 [] [.int .i64 a0, .int .i64 a1] (.int .i64 r) [] := by
  refine holds_of_sim (fun (r : Int) => (.int .i64 r, [])) h Tryd.func89 rfl (by kernel_rfl) 20 rfl (by simp) (by simp) [(0, .int .i64 a0), (1, .int .i64 a1)] rfl [] rfl [.tmp 4] rfl ?_
  clear h
  unfold cmp_Compare_int.f
  refine sim_mk ?_
  repeat' first
    | ((with_reducible refine gS ?_); first
      | with_reducible refine sim_seq ?_
      | with_reducible refine sim_block ?_
      | with_reducible refine sim_skip ?_
      | with_reducible refine sim_inBlock ?_
      | with_reducible exact sim_none
      | refine sR (h := ?_)
      | refine sX (h := ?_)
      | refine sD (hm := by exact mixed) (h := ?_)
      | ((with_reducible refine sGb ?_); refine sTe (h := ?_))
      | ((with_reducible refine sGb ?_); refine sFd (h := ?_))
      | ((with_reducible refine sGb ?_); refine sTb (h := ?_))
      | ((with_reducible refine sGb ?_); refine sFb (h := ?_))
      | with_reducible refine sIn (fun hb => ?_) (fun hb => ?_)
      | with_reducible refine sBd (fun hb hc => ?_) (fun hb hc => ?_) (fun hb hc => ?_) (fun hb hc => ?_)
      | ((with_reducible refine sGb ?_); refine sIb (fun hb => ?_) (fun hb => ?_))
      | with_reducible refine sIw (fun r1 r2 r3 r4 => ?_)
      | with_reducible refine sIz (fun r1 r2 r3 r4 => ?_)
      | ((with_reducible refine sGi ?_); refine sT (h := ?_))
      | ((with_reducible refine sGi ?_); refine sF' (h := ?_))
      | ((with_reducible refine sGi ?_); refine sI (fun hb hc => ?_) (fun hb hc => ?_))
      | with_reducible refine sim_let ?_
      | refine sY (h := ?_)
      | refine sN (h := ?_)
      | refine sF [] false
      | refine sFe [] false
      | fail)
    | ((with_reducible refine gO ?_); first
      | with_reducible exact simO_none
      | ((with_reducible refine oGb ?_); refine oTe (h := ?_))
      | ((with_reducible refine oGb ?_); refine oFd (h := ?_))
      | ((with_reducible refine oGb ?_); refine oTb (h := ?_))
      | ((with_reducible refine oGb ?_); refine oFb (h := ?_))
      | with_reducible refine oIn (fun hb => ?_) (fun hb => ?_)
      | with_reducible refine oBd (fun hb hc => ?_) (fun hb hc => ?_) (fun hb hc => ?_) (fun hb hc => ?_)
      | ((with_reducible refine oGb ?_); refine oIb (fun hb => ?_) (fun hb => ?_))
      | with_reducible refine oIw (fun r1 r2 r3 r4 => ?_)
      | with_reducible refine oIz (fun r1 r2 r3 r4 => ?_)
      | ((with_reducible refine oGi ?_); refine oT (h := ?_))
      | ((with_reducible refine oGi ?_); refine oF' (h := ?_))
      | ((with_reducible refine oGi ?_); refine oI (fun hb hc => ?_) (fun hb hc => ?_))
      | with_reducible refine simO_let ?_
      | refine simO_nil ?_
      | ((with_reducible refine gC ?_); first
        | refine oC true (hh := fun t ht => cmp_isNaN_int.holds _ t ht) (h := fun t => ?_)
        | refine oCg true (hh := fun t ht => cmp_isNaN_int.holds _ t ht) (h := fun t => ?_)
        | fail)
      | refine oV (h := ?_)
      | refine oVg (h := ?_)
      | refine oKg (h := ?_)
      | refine oKu (h := ?_)
      | refine oS (h := ?_)
      | refine oN (h := ?_)
      | refine oNg (h := ?_)
      | refine oA (h := ?_)
      | fail)
    | fail

set_option maxRecDepth 100000 in
set_option maxHeartbeats 8000000 in
theorem cmp_isNaN_uint32.holds {mx : Int} (a0 : Int) (r : Bool) (h : cmp_isNaN_uint32.f a0 = some r) : Holds Tryd.prog (G0 mx) 106 [] [.int .u32 a0] (.bool r) [] := by
  refine holds_of_sim (fun (r : Bool) => (.bool r, [])) h Tryd.func106 rfl (by kernel_rfl) 6 rfl (by simp) (by simp) [(0, .int .u32 a0)] rfl [] rfl [.tmp 2] rfl ?_
  clear h
  unfold cmp_isNaN_uint32.f
  refine sim_mk ?_
  repeat' first
    | ((with_reducible refine gS ?_); first
      | with_reducible refine sim_seq ?_
      | with_reducible refine sim_block ?_
      | with_reducible refine sim_skip ?_
      | with_reducible refine sim_inBlock ?_
      | with_reducible exact sim_none
      | refine sR (h := ?_)
      | refine sX (h := ?_)
      | refine sD (hm := by exact mixed) (h := ?_)
      | ((with_reducible refine sGb ?_); refine sTe (h := ?_))
      | ((with_reducible refine sGb ?_); refine sFd (h := ?_))
      | ((with_reducible refine sGb ?_); refine sTb (h := ?_))
      | ((with_reducible refine sGb ?_); refine sFb (h := ?_))
      | with_reducible refine sIn (fun hb => ?_) (fun hb => ?_)
      | with_reducible refine sBd (fun hb hc => ?_) (fun hb hc => ?_) (fun hb hc => ?_) (fun hb hc => ?_)
      | ((with_reducible refine sGb ?_); refine sIb (fun hb => ?_) (fun hb => ?_))
      | with_reducible refine sIw (fun r1 r2 r3 r4 => ?_)
      | with_reducible refine sIz (fun r1 r2 r3 r4 => ?_)
      | ((with_reducible refine sGi ?_); refine sT (h := ?_))
      | ((with_reducible refine sGi ?_); refine sF' (h := ?_))
      | ((with_reducible refine sGi ?_); refine sI (fun hb hc => ?_) (fun hb hc => ?_))
      | with_reducible refine sim_let ?_
      | refine sY (h := ?_)
      | refine sN (h := ?_)
      | refine sF [] false
      | refine sFe [] false
      | fail)
    | ((with_reducible refine gO ?_); first
      | with_reducible exact simO_none
      | ((with_reducible refine oGb ?_); refine oTe (h := ?_))
      | ((with_reducible refine oGb ?_); refine oFd (h := ?_))
      | ((with_reducible refine oGb ?_); refine oTb (h := ?_))
      | ((with_reducible refine oGb ?_); refine oFb (h := ?_))
      | with_reducible refine oIn (fun hb => ?_) (fun hb => ?_)
      | with_reducible refine oBd (fun hb hc => ?_) (fun hb hc => ?_) (fun hb hc => ?_) (fun hb hc => ?_)
      | ((with_reducible refine oGb ?_); refine oIb (fun hb => ?_) (fun hb => ?_))
      | with_reducible refine oIw (fun r1 r2 r3 r4 => ?_)
      | with_reducible refine oIz (fun r1 r2 r3 r4 => ?_)
      | ((with_reducible refine oGi ?_); refine oT (h := ?_))
      | ((with_reducible refine oGi ?_); refine oF' (h := ?_))
      | ((with_reducible refine oGi ?_); refine oI (fun hb hc => ?_) (fun hb hc => ?_))
      | with_reducible refine simO_let ?_
      | refine simO_nil ?_
      | refine oV (h := ?_)
      | refine oVg (h := ?_)
      | refine oKg (h := ?_)
      | refine oKu (h := ?_)
      | refine oS (h := ?_)
      | refine oN (h := ?_)
      | refine oNg (h := ?_)
      | refine oA (h := ?_)
      | fail)
    | fail

set_option maxRecDepth 100000 in
set_option maxHeartbeats 8000000 in
theorem cmp_Compare_uint32.holds {mx : Int} (a0 : Int) (a1 : Int) (r : Int) (h : cmp_Compare_uint32.f a0 a1 = some r) : Holds Tryd.prog (G0 mx) 90 [] [.int .u32 a0, .int .u32 a1] (.int .i64 r) [] := by
  refine holds_of_sim (fun (r : Int) => (.int .i64 r, [])) h Tryd.func90 rfl (by kernel_rfl) 20 rfl (by simp) (by simp) [(0, .int .u32 a0), (1, .int .u32 a1)] rfl [] rfl [.tmp 4] rfl ?_
  clear h
  unfold cmp_Compare_uint32.f
  refine sim_mk ?_
  repeat' first
    | ((with_reducible refine gS ?_); first
      | with_reducible refine sim_seq ?_
      | with_reducible refine sim_block ?_
      | with_reducible refine sim_skip ?_
      | with_reducible refine sim_inBlock ?_
      | with_reducible exact sim_none
      | refine sR (h := ?_)
      | refine sX (h := ?_)
      | refine sD (hm := by exact mixed) (h := ?_)
      | ((with_reducible refine sGb ?_); refine sTe (h := ?_))
      | ((with_reducible refine sGb ?_); refine sFd (h := ?_))
      | ((with_reducible refine sGb ?_); refine sTb (h := ?_))
      | ((with_reducible refine sGb ?_); refine sFb (h := ?_))
      | with_reducible refine sIn (fun hb => ?_) (fun hb => ?_)
      | with_reducible refine sBd (fun hb hc => ?_) (fun hb hc => ?_) (fun hb hc => ?_) (fun hb hc => ?_)
      | ((with_reducible refine sGb ?_); refine sIb (fun hb => ?_) (fun hb => ?_))
      | with_reducible refine sIw (fun r1 r2 r3 r4 => ?_)
      | with_reducible refine sIz (fun r1 r2 r3 r4 => ?_)
      | ((with_reducible refine sGi ?_); refine sT (h := ?_))
      | ((with_reducible refine sGi ?_); refine sF' (h := ?_))
      | ((with_reducible refine sGi ?_); refine sI (fun hb hc => ?_) (fun hb hc => ?_))
      | with_reducible refine sim_let ?_
      | refine sY (h := ?_)
      | refine sN (h := ?_)
      | refine sF [] false
      | refine sFe [] false
      | fail)
    | ((with_reducible refine gO ?_); first
      | with_reducible exact simO_none
      | ((with_reducible refine oGb ?_); refine oTe (h := ?_))
      | ((with_reducible refine oGb ?_); refine oFd (h := ?_))
      | ((with_reducible refine oGb ?_); refine oTb (h := ?_))
      | ((with_reducible refine oGb ?_); refine oFb (h := ?_))
      | with_reducible refine oIn (fun hb => ?_) (fun hb => ?_)
      | with_reducible refine oBd (fun hb hc => ?_) (fun hb hc => ?_) (fun hb hc => ?_) (fun hb hc => ?_)
      | ((with_reducible refine oGb ?_); refine oIb (fun hb => ?_) (fun hb => ?_))
      | with_reducible refine oIw (fun r1 r2 r3 r4 => ?_)
      | with_reducible refine oIz (fun r1 r2 r3 r4 => ?_)
      | ((with_reducible refine oGi ?_); refine oT (h := ?_))
      | ((with_reducible refine oGi ?_); refine oF' (h := ?_))
      | ((with_reducible refine oGi ?_); refine oI (fun hb hc => ?_) (fun hb hc => ?_))
      | with_reducible refine simO_let ?_
      | refine simO_nil ?_
      | ((with_reducible refine gC ?_); first
        | refine oC true (hh := fun t ht => cmp_isNaN_uint32.holds _ t ht) (h := fun t => ?_)
        | refine oCg true (hh := fun t ht => cmp_isNaN_uint32.holds _ t ht) (h := fun t => ?_)
        | fail)
      | refine oV (h := ?_)
      | refine oVg (h := ?_)
      | refine oKg (h := ?_)
      | refine oKu (h := ?_)
      | refine oS (h := ?_)
      | refine oN (h := ?_)
      | refine oNg (h := ?_)
      | refine oA (h := ?_)
      | fail)
    | fail

set_option maxRecDepth 100000 in
set_option maxHeartbeats 8000000 in
theorem bits_Sub32.holds {mx : Int} (a0 : Int) (a1 : Int) (a2 : Int) (r : Int × Int) (h : bits_Sub32.f a0 a1 a2 = some r) : Holds Tryd.prog (G0 mx) 86 [] [.int .u32 a0, .int .u32 a1, .int .u32 a2] (.tup [.int .u32 r.1, .int .u32 r.2]) [] := by
  refine holds_of_sim (fun (r : Int × Int) => (.tup [.int .u32 r.1, .int .u32 r.2], [])) h Tryd.func86 rfl (by kernel_rfl) 25 rfl (by simp) (by simp) [(0, .int .u32 a0), (1, .int .u32 a1), (2, .int .u32 a2)] rfl [] rfl [.tmp 6, .tmp 7] rfl ?_
  clear h
  unfold bits_Sub32.f
  refine sim_mk ?_
  repeat' first
    | ((with_reducible refine gS ?_); first
      | with_reducible refine sim_seq ?_
      | with_reducible refine sim_block ?_
      | with_reducible refine sim_skip ?_
      | with_reducible refine sim_inBlock ?_
      | with_reducible exact sim_none
      | refine sR (h := ?_)
      | refine sX (h := ?_)
      | refine sD (hm := by exact mixed) (h := ?_)
      | ((with_reducible refine sGb ?_); refine sTe (h := ?_))
      | ((with_reducible refine sGb ?_); refine sFd (h := ?_))
      | ((with_reducible refine sGb ?_); refine sTb (h := ?_))
      | ((with_reducible refine sGb ?_); refine sFb (h := ?_))
      | with_reducible refine sIn (fun hb => ?_) (fun hb => ?_)
      | with_reducible refine sBd (fun hb hc => ?_) (fun hb hc => ?_) (fun hb hc => ?_) (fun hb hc => ?_)
      | ((with_reducible refine sGb ?_); refine sIb (fun hb => ?_) (fun hb => ?_))
      | with_reducible refine sIw (fun r1 r2 r3 r4 => ?_)
      | with_reducible refine sIz (fun r1 r2 r3 r4 => ?_)
      | ((with_reducible refine sGi ?_); refine sT (h := ?_))
      | ((with_reducible refine sGi ?_); refine sF' (h := ?_))
      | ((with_reducible refine sGi ?_); refine sI (fun hb hc => ?_) (fun hb hc => ?_))
      | with_reducible refine sim_let ?_
      | refine sY (h := ?_)
      | refine sN (h := ?_)
      | refine sF [] false
      | refine sFe [] false
      | fail)
    | ((with_reducible refine gO ?_); first
      | with_reducible exact simO_none
      | ((with_reducible refine oGb ?_); refine oTe (h := ?_))
      | ((with_reducible refine oGb ?_); refine oFd (h := ?_))
      | ((with_reducible refine oGb ?_); refine oTb (h := ?_))
      | ((with_reducible refine oGb ?_); refine oFb (h := ?_))
      | with_reducible refine oIn (fun hb => ?_) (fun hb => ?_)
      | with_reducible refine oBd (fun hb hc => ?_) (fun hb hc => ?_) (fun hb hc => ?_) (fun hb hc => ?_)
      | ((with_reducible refine oGb ?_); refine oIb (fun hb => ?_) (fun hb => ?_))
      | with_reducible refine oIw (fun r1 r2 r3 r4 => ?_)
      | with_reducible refine oIz (fun r1 r2 r3 r4 => ?_)
      | ((with_reducible refine oGi ?_); refine oT (h := ?_))
      | ((with_reducible refine oGi ?_); refine oF' (h := ?_))
      | ((with_reducible refine oGi ?_); refine oI (fun hb hc => ?_) (fun hb hc => ?_))
      | with_reducible refine simO_let ?_
      | refine simO_nil ?_
      | refine oV (h := ?_)
      | refine oVg (h := ?_)
      | refine oKg (h := ?_)
      | refine oKu (h := ?_)
      | refine oS (h := ?_)
      | refine oN (h := ?_)
      | refine oNg (h := ?_)
      | refine oA (h := ?_)
      | fail)
    | fail

set_option maxRecDepth 100000 in
set_option maxHeartbeats 8000000 in
theorem bytealg_Cutover.holds {mx : Int} (a0 : Int) (r : Int) (h : bytealg_Cutover.f a0 = some r) : Holds Tryd.prog (G0 mx) 124 [] [.int .i64 a0] (.int .i64 r) [] := by
  refine holds_of_sim (fun (r : Int) => (.int .i64 r, [])) h Tryd.func124 rfl (by kernel_rfl) 6 rfl (by simp) (by simp) [(0, .int .i64 a0)] rfl [] rfl [.tmp 2] rfl ?_
  clear h
  unfold bytealg_Cutover.f
  refine sim_mk ?_
  repeat' first
    | ((with_reducible refine gS ?_); first
      | with_reducible refine sim_seq ?_
      | with_reducible refine sim_block ?_
      | with_reducible refine sim_skip ?_
      | with_reducible refine sim_inBlock ?_
      | with_reducible exact sim_none
      | refine sR (h := ?_)
      | refine sX (h := ?_)
      | refine sD (hm := by exact mixed) (h := ?_)
      | ((with_reducible refine sGb ?_); refine sTe (h := ?_))
      | ((with_reducible refine sGb ?_); refine sFd (h := ?_))
      | ((with_reducible refine sGb ?_); refine sTb (h := ?_))
      | ((with_reducible refine sGb ?_); refine sFb (h := ?_))
      | with_reducible refine sIn (fun hb => ?_) (fun hb => ?_)
      | with_reducible refine sBd (fun hb hc => ?_) (fun hb hc => ?_) (fun hb hc => ?_) (fun hb hc => ?_)
      | ((with_reducible refine sGb ?_); refine sIb (fun hb => ?_) (fun hb => ?_))
      | with_reducible refine sIw (fun r1 r2 r3 r4 => ?_)
      | with_reducible refine sIz (fun r1 r2 r3 r4 => ?_)
      | ((with_reducible refine sGi ?_); refine sT (h := ?_))
      | ((with_reducible refine sGi ?_); refine sF' (h := ?_))
      | ((with_reducible refine sGi ?_); refine sI (fun hb hc => ?_) (fun hb hc => ?_))
      | with_reducible refine sim_let ?_
      | refine sY (h := ?_)
      | refine sN (h := ?_)
      | refine sF [] false
      | refine sFe [] false
      | fail)
    | ((with_reducible refine gO ?_); first
      | with_reducible exact simO_none
      | ((with_reducible refine oGb ?_); refine oTe (h := ?_))
      | ((with_reducible refine oGb ?_); refine oFd (h := ?_))
      | ((with_reducible refine oGb ?_); refine oTb (h := ?_))
      | ((with_reducible refine oGb ?_); refine oFb (h := ?_))
      | with_reducible refine oIn (fun hb => ?_) (fun hb => ?_)
      | with_reducible refine oBd (fun hb hc => ?_) (fun hb hc => ?_) (fun hb hc => ?_) (fun hb hc => ?_)
      | ((with_reducible refine oGb ?_); refine oIb (fun hb => ?_) (fun hb => ?_))
      | with_reducible refine oIw (fun r1 r2 r3 r4 => ?_)
      | with_reducible refine oIz (fun r1 r2 r3 r4 => ?_)
      | ((with_reducible refine oGi ?_); refine oT (h := ?_))
      | ((with_reducible refine oGi ?_); refine oF' (h := ?_))
      | ((with_reducible refine oGi ?_); refine oI (fun hb hc => ?_) (fun hb hc => ?_))
      | with_reducible refine simO_let ?_
      | refine simO_nil ?_
      | refine oV (h := ?_)
      | refine oVg (h := ?_)
      | refine oKg (h := ?_)
      | refine oKu (h := ?_)
      | refine oS (h := ?_)
      | refine oN (h := ?_)
      | refine oNg (h := ?_)
      | refine oA (h := ?_)
      | fail)
    | fail

set_option maxRecDepth 100000 in
set_option maxHeartbeats 8000000 in
theorem bytealg_hashStr_string.holds {mx : Int} (k : Nat) (a0 : ByteArray) (r : Int × Int) (h : bytealg_hashStr_string.f k a0 = some r) : Holds Tryd.prog (G0 mx) 127 [] [.str a0] (.tup [.int .u32 r.1, .int .u32 r.2]) [] := by
  refine holds_of_sim (fun (r : Int × Int) => (.tup [.int .u32 r.1, .int .u32 r.2], [])) h Tryd.func127 rfl (by kernel_rfl) 39 rfl (by simp) (by simp) [(0, .str a0)] rfl [] rfl [.tmp 2, .tmp 3] rfl ?_
  clear h
  unfold bytealg_hashStr_string.f
  refine sim_mk ?_
  repeat' first
    | ((with_reducible refine gS ?_); first
      | with_reducible refine sim_seq ?_
      | with_reducible refine sim_block ?_
      | with_reducible refine sim_skip ?_
      | with_reducible refine sim_inBlock ?_
      | with_reducible exact sim_none
      | refine sR (h := ?_)
      | refine sX (h := ?_)
      | refine sD (hm := by exact mixed) (h := ?_)
      | ((with_reducible refine sGb ?_); refine sTe (h := ?_))
      | ((with_reducible refine sGb ?_); refine sFd (h := ?_))
      | ((with_reducible refine sGb ?_); refine sTb (h := ?_))
      | ((with_reducible refine sGb ?_); refine sFb (h := ?_))
      | with_reducible refine sIn (fun hb => ?_) (fun hb => ?_)
      | with_reducible refine sBd (fun hb hc => ?_) (fun hb hc => ?_) (fun hb hc => ?_) (fun hb hc => ?_)
      | ((with_reducible refine sGb ?_); refine sIb (fun hb => ?_) (fun hb => ?_))
      | with_reducible refine sIw (fun r1 r2 r3 r4 => ?_)
      | with_reducible refine sIz (fun r1 r2 r3 r4 => ?_)
      | ((with_reducible refine sGi ?_); refine sT (h := ?_))
      | ((with_reducible refine sGi ?_); refine sF' (h := ?_))
      | ((with_reducible refine sGi ?_); refine sI (fun hb hc => ?_) (fun hb hc => ?_))
      | with_reducible refine sim_let ?_
      | refine sY (h := ?_)
      | refine sN (h := ?_)
      | refine IHl0.out _ (_, _, _) _ (by omega) ?_
      | refine IHl1.out _ (_, _, _, _) _ (by omega) ?_
      | (refine sim_loop (fun k (x : ByteArray × Int × Int) => match x with | (x0, x4, x5) => bytealg_hashStr_string.l0 k x0 x4 x5) (fun x => mkS [(0, .str x.1), (4, .int .u32 x.2.1), (5, .int .i64 x.2.2)] ([] ++ []) []) _ (fun ⟨_, _, _⟩ => rfl) (fun k hkl0 IH x => ?_) ((_, _, _)) ?_; obtain ⟨x0, x4, x5⟩ := x; simp only [bytealg_hashStr_string.l0]; have IHl0 := Hid.mk IH; clear IH; refine sim_mk ?_)
      | (refine sim_loop (fun k (x : Int × Int × Int × Int) => match x with | (x4, x6, x7, x8) => bytealg_hashStr_string.l1 k x4 x6 x7 x8) (fun x => mkS [(4, .int .u32 x.1), (6, .int .u32 x.2.1), (7, .int .u32 x.2.2.1), (8, .int .i64 x.2.2.2)] ([] ++ []) []) _ (fun ⟨_, _, _, _⟩ => rfl) (fun k hkl1 IH x => ?_) ((_, _, _, _)) ?_; obtain ⟨x4, x6, x7, x8⟩ := x; simp only [bytealg_hashStr_string.l1]; have IHl1 := Hid.mk IH; clear IH; refine sim_mk ?_)
      | refine sF [] false
      | refine sFe [] false
      | fail)
    | ((with_reducible refine gO ?_); first
      | with_reducible exact simO_none
      | ((with_reducible refine oGb ?_); refine oTe (h := ?_))
      | ((with_reducible refine oGb ?_); refine oFd (h := ?_))
      | ((with_reducible refine oGb ?_); refine oTb (h := ?_))
      | ((with_reducible refine oGb ?_); refine oFb (h := ?_))
      | with_reducible refine oIn (fun hb => ?_) (fun hb => ?_)
      | with_reducible refine oBd (fun hb hc => ?_) (fun hb hc => ?_) (fun hb hc => ?_) (fun hb hc => ?_)
      | ((with_reducible refine oGb ?_); refine oIb (fun hb => ?_) (fun hb => ?_))
      | with_reducible refine oIw (fun r1 r2 r3 r4 => ?_)
      | with_reducible refine oIz (fun r1 r2 r3 r4 => ?_)
      | ((with_reducible refine oGi ?_); refine oT (h := ?_))
      | ((with_reducible refine oGi ?_); refine oF' (h := ?_))
      | ((with_reducible refine oGi ?_); refine oI (fun hb hc => ?_) (fun hb hc => ?_))
      | with_reducible refine simO_let ?_
      | refine simO_nil ?_
      | refine oV (h := ?_)
      | refine oVg (h := ?_)
      | refine oKg (h := ?_)
      | refine oKu (h := ?_)
      | refine oS (h := ?_)
      | refine oN (h := ?_)
      | refine oNg (h := ?_)
      | refine oA (h := ?_)
      | fail)
    | ((with_reducible refine gL ?_); first
      | refine lC [] [] []
      | fail)
    | fail

set_option maxRecDepth 100000 in
set_option maxHeartbeats 8000000 in
theorem bytealg_IndexRabinKarp_string.holds {mx : Int} (k : Nat) (a0 : ByteArray) (a1 : ByteArray) (r : Int) (h : bytealg_IndexRabinKarp_string.f k a0 a1 = some r) : Holds Tryd.prog (G0 mx) 125 [] [.str a0, .str a1] (.int .i64 r) [] := by
  refine holds_of_sim (fun (r : Int) => (.int .i64 r, [])) h Tryd.func125 rfl (by kernel_rfl) 81 rfl (by simp) (by simp) [(0, .str a0), (1, .str a1)] rfl [] rfl [.tmp 4] rfl ?_
  clear h
  unfold bytealg_IndexRabinKarp_string.f
  refine sim_mk ?_
  repeat' first
    | ((with_reducible refine gS ?_); first
      | with_reducible refine sim_seq ?_
      | with_reducible refine sim_block ?_
      | with_reducible refine sim_skip ?_
      | with_reducible refine sim_inBlock ?_
      | with_reducible exact sim_none
      | refine sR (h := ?_)
      | refine sX (h := ?_)
      | refine sD (hm := by exact mixed) (h := ?_)
      | ((with_reducible refine sGb ?_); refine sTe (h := ?_))
      | ((with_reducible refine sGb ?_); refine sFd (h := ?_))
      | ((with_reducible refine sGb ?_); refine sTb (h := ?_))
      | ((with_reducible refine sGb ?_); refine sFb (h := ?_))
      | with_reducible refine sIn (fun hb => ?_) (fun hb => ?_)
      | with_reducible refine sBd (fun hb hc => ?_) (fun hb hc => ?_) (fun hb hc => ?_) (fun hb hc => ?_)
      | ((with_reducible refine sGb ?_); refine sIb (fun hb => ?_) (fun hb => ?_))
      | with_reducible refine sIw (fun r1 r2 r3 r4 => ?_)
      | with_reducible refine sIz (fun r1 r2 r3 r4 => ?_)
      | ((with_reducible refine sGi ?_); refine sT (h := ?_))
      | ((with_reducible refine sGi ?_); refine sF' (h := ?_))
      | ((with_reducible refine sGi ?_); refine sI (fun hb hc => ?_) (fun hb hc => ?_))
      | with_reducible refine sim_let ?_
      | refine sY (h := ?_)
      | refine sN (h := ?_)
      | refine IHl0.out _ (_, _, _, _, _, _, _) _ (by omega) ?_
      | refine IHl1.out _ (_, _, _, _, _, _, _) _ (by omega) ?_
      | (refine sim_loop (fun k (x : ByteArray × ByteArray × Int × Int × Int × Int × Int) => match x with | (x0, x1, x5, x6, x7, x8, x9) => bytealg_IndexRabinKarp_string.l0 k x0 x1 x5 x6 x7 x8 x9) (fun x => mkS [(0, .str x.1), (1, .str x.2.1), (5, .int .u32 x.2.2.1), (6, .int .u32 x.2.2.2.1), (7, .int .i64 x.2.2.2.2.1), (8, .int .u32 x.2.2.2.2.2.1), (9, .int .i64 x.2.2.2.2.2.2)] ([] ++ []) []) _ (fun ⟨_, _, _, _, _, _, _⟩ => rfl) (fun k hkl0 IH x => ?_) ((_, _, _, _, _, _, _)) ?_; obtain ⟨x0, x1, x5, x6, x7, x8, x9⟩ := x; simp only [bytealg_IndexRabinKarp_string.l0]; have IHl0 := Hid.mk IH; clear IH; refine sim_mk ?_)
      | (refine sim_loop (fun k (x : ByteArray × ByteArray × Int × Int × Int × Int × Int) => match x with | (x0, x1, x5, x6, x7, x8, x10) => bytealg_IndexRabinKarp_string.l1 k x0 x1 x5 x6 x7 x8 x10) (fun x => mkS [(0, .str x.1), (1, .str x.2.1), (5, .int .u32 x.2.2.1), (6, .int .u32 x.2.2.2.1), (7, .int .i64 x.2.2.2.2.1), (8, .int .u32 x.2.2.2.2.2.1), (10, .int .i64 x.2.2.2.2.2.2)] ([] ++ []) []) _ (fun ⟨_, _, _, _, _, _, _⟩ => rfl) (fun k hkl1 IH x => ?_) ((_, _, _, _, _, _, _)) ?_; obtain ⟨x0, x1, x5, x6, x7, x8, x10⟩ := x; simp only [bytealg_IndexRabinKarp_string.l1]; have IHl1 := Hid.mk IH; clear IH; refine sim_mk ?_)
      | (refine sJ (fun k => bytealg_IndexRabinKarp_string.j1 k _ _ _ _ _ _ _) rfl (fun k hk => ?_); simp only [bytealg_IndexRabinKarp_string.j1, reduceIte, Bool.false_eq_true, decide_eq_true_eq])
      | refine sF [] false
      | refine sFe [] false
      | fail)
    | ((with_reducible refine gO ?_); first
      | with_reducible exact simO_none
      | ((with_reducible refine oGb ?_); refine oTe (h := ?_))
      | ((with_reducible refine oGb ?_); refine oFd (h := ?_))
      | ((with_reducible refine oGb ?_); refine oTb (h := ?_))
      | ((with_reducible refine oGb ?_); refine oFb (h := ?_))
      | with_reducible refine oIn (fun hb => ?_) (fun hb => ?_)
      | with_reducible refine oBd (fun hb hc => ?_) (fun hb hc => ?_) (fun hb hc => ?_) (fun hb hc => ?_)
      | ((with_reducible refine oGb ?_); refine oIb (fun hb => ?_) (fun hb => ?_))
      | with_reducible refine oIw (fun r1 r2 r3 r4 => ?_)
      | with_reducible refine oIz (fun r1 r2 r3 r4 => ?_)
      | ((with_reducible refine oGi ?_); refine oT (h := ?_))
      | ((with_reducible refine oGi ?_); refine oF' (h := ?_))
      | ((with_reducible refine oGi ?_); refine oI (fun hb hc => ?_) (fun hb hc => ?_))
      | with_reducible refine simO_let ?_
      | refine simO_nil ?_
      | ((with_reducible refine gC ?_); first
        | refine oC true (hh := fun t ht => bytealg_hashStr_string.holds _ _ t ht) (h := fun t => ?_)
        | refine oCg true (hh := fun t ht => bytealg_hashStr_string.holds _ _ t ht) (h := fun t => ?_)
        | fail)
      | refine oV (h := ?_)
      | refine oVg (h := ?_)
      | refine oKg (h := ?_)
      | refine oKu (h := ?_)
      | refine oS (h := ?_)
      | refine oN (h := ?_)
      | refine oNg (h := ?_)
      | refine oA (h := ?_)
      | (refine oJ (fun k => bytealg_IndexRabinKarp_string.j1 k _ _ _ _ _ _ _) rfl (fun k hk => ?_); simp only [bytealg_IndexRabinKarp_string.j1, reduceIte, Bool.false_eq_true, decide_eq_true_eq])
      | fail)
    | ((with_reducible refine gL ?_); first
      | refine lC [] [] []
      | fail)
    | fail

set_option maxRecDepth 100000 in
set_option maxHeartbeats 8000000 in
theorem strings_Cut.holds {mx : Int} (a0 : ByteArray) (a1 : ByteArray) (r : ByteArray × ByteArray × Bool) (h : strings_Cut.f a0 a1 = some r) : Holds Tryd.prog (G0 mx) 94 [] [.str a0, .str a1] (.tup [.str r.1, .str r.2.1, .bool r.2.2]) [] := by
  unfold strings_Cut.f at h
  by_cases hs : a0.size < 4294967281
  · rw [if_pos hs] at h
    obtain rfl := Option.some.inj h
    refine holds_below (by kernel_rfl) (fun w fz β vs hG hV => ?_)
    obtain ⟨v0, vs, rfl, h0, hV⟩ := hV.head
    obtain ⟨v1, vs, rfl, h1, hV⟩ := hV.head
    obtain rfl := hV.none
    obtain rfl := h0.str_inv
    obtain rfl := h1.str_inv
    refine ⟨_, (Tryd.strings_Cut a0 a1 mx w hs (hG.int (g := 3) rfl)).mono ?_, fun w' fz' => V_ssb _ _ _⟩
    rintro e w' ⟨rfl, n, rfl⟩
    exact ⟨rfl, below_drewN w n⟩
  · rw [if_neg hs] at h; cases h

set_option maxRecDepth 100000 in
set_option maxHeartbeats 8000000 in
theorem bits_Len32.holds {mx : Int} (a0 : Int) (r : Int) (h : bits_Len32.f a0 = some r) : Holds Tryd.prog (G0 mx) 118 [] [.int .u32 a0] (.int .i64 r) [] := by
  refine holds_of_sim (fun (r : Int) => (.int .i64 r, [])) h Tryd.func118 rfl (by kernel_rfl) 19 rfl (by simp) (by simp) [(0, .int .u32 a0)] rfl [] rfl [.tmp 2] rfl ?_
  clear h
  unfold bits_Len32.f
  refine sim_mk ?_
  rw [show (⟨(([0, 1, 2, 2, 3, 3, 3, 3, 4, 4, 4, 4, 4, 4, 4, 4, 5, 5, 5, 5, 5, 5, 5, 5, 5, 5, 5, 5, 5, 5, 5, 5, 6, 6, 6, 6, 6, 6, 6, 6, 6, 6, 6, 6, 6, 6, 6, 6, 6, 6, 6, 6, 6, 6, 6, 6, 6, 6, 6, 6, 6, 6, 6, 6].append [7, 7, 7, 7, 7, 7, 7, 7, 7, 7, 7, 7, 7, 7, 7, 7, 7, 7, 7, 7, 7, 7, 7, 7, 7, 7, 7, 7, 7, 7, 7, 7, 7, 7, 7, 7, 7, 7, 7, 7, 7, 7, 7, 7, 7, 7, 7, 7, 7, 7, 7, 7, 7, 7, 7, 7, 7, 7, 7, 7, 7, 7, 7, 7]).append ([8, 8, 8, 8, 8, 8, 8, 8, 8, 8, 8, 8, 8, 8, 8, 8, 8, 8, 8, 8, 8, 8, 8, 8, 8, 8, 8, 8, 8, 8, 8, 8, 8, 8, 8, 8, 8, 8, 8, 8, 8, 8, 8, 8, 8, 8, 8, 8, 8, 8, 8, 8, 8, 8, 8, 8, 8, 8, 8, 8, 8, 8, 8, 8].append [8, 8, 8, 8, 8, 8, 8, 8, 8, 8, 8, 8, 8, 8, 8, 8, 8, 8, 8, 8, 8, 8, 8, 8, 8, 8, 8, 8, 8, 8, 8, 8, 8, 8, 8, 8, 8, 8, 8, 8, 8, 8, 8, 8, 8, 8, 8, 8, 8, 8, 8, 8, 8, 8, 8, 8, 8, 8, 8, 8, 8, 8, 8, 8])).toArray⟩ : ByteArray) = len8_ from rfl]
  have hs8 : (len8_.size : Int) = 256 := rfl
  generalize len8_ = T8 at hs8 ⊢
  have hw1 : wrap64 (16 + 8) = 16 + 8 := by unfold wrap64; omega
  have hw2 : wrap64 (0 + 8) = 0 + 8 := by unfold wrap64; omega
  repeat' first
    | ((with_reducible refine gS ?_); first
      | with_reducible refine sim_seq ?_
      | with_reducible refine sim_block ?_
      | with_reducible refine sim_skip ?_
      | with_reducible refine sim_inBlock ?_
      | with_reducible exact sim_none
      | refine sR (h := ?_)
      | refine sX (h := ?_)
      | refine sD (hm := by exact mixed) (h := ?_)
      | ((with_reducible refine sGb ?_); refine sTe (h := ?_))
      | ((with_reducible refine sGb ?_); refine sFd (h := ?_))
      | ((with_reducible refine sGb ?_); refine sTb (h := ?_))
      | ((with_reducible refine sGb ?_); refine sFb (h := ?_))
      | with_reducible refine sIn (fun hb => ?_) (fun hb => ?_)
      | with_reducible refine sBd (fun hb hc => ?_) (fun hb hc => ?_) (fun hb hc => ?_) (fun hb hc => ?_)
      | ((with_reducible refine sGb ?_); refine sIb (fun hb => ?_) (fun hb => ?_))
      | with_reducible refine sIw (fun r1 r2 r3 r4 => ?_)
      | with_reducible refine sIz (fun r1 r2 r3 r4 => ?_)
      | ((with_reducible refine sGi ?_); refine sT (h := ?_))
      | ((with_reducible refine sGi ?_); refine sF' (h := ?_))
      | ((with_reducible refine sGi ?_); refine sI (fun hb hc => ?_) (fun hb hc => ?_))
      | with_reducible refine sim_let ?_
      | refine sY (h := ?_)
      | refine sN (h := ?_)
      | refine sF [] false
      | refine sFe [] false
      | fail)
    | ((with_reducible refine gO ?_); first
      | with_reducible exact simO_none
      | ((with_reducible refine oGb ?_); refine oTe (h := ?_))
      | ((with_reducible refine oGb ?_); refine oFd (h := ?_))
      | ((with_reducible refine oGb ?_); refine oTb (h := ?_))
      | ((with_reducible refine oGb ?_); refine oFb (h := ?_))
      | with_reducible refine oIn (fun hb => ?_) (fun hb => ?_)
      | with_reducible refine oBd (fun hb hc => ?_) (fun hb hc => ?_) (fun hb hc => ?_) (fun hb hc => ?_)
      | ((with_reducible refine oGb ?_); refine oIb (fun hb => ?_) (fun hb => ?_))
      | with_reducible refine oIw (fun r1 r2 r3 r4 => ?_)
      | with_reducible refine oIz (fun r1 r2 r3 r4 => ?_)
      | ((with_reducible refine oGi ?_); refine oT (h := ?_))
      | ((with_reducible refine oGi ?_); refine oF' (h := ?_))
      | ((with_reducible refine oGi ?_); refine oI (fun hb hc => ?_) (fun hb hc => ?_))
      | with_reducible refine simO_let ?_
      | refine simO_nil ?_
      | refine oV (h := ?_)
      | refine oVg (h := ?_)
      | refine oKg (h := ?_)
      | refine oKu (h := ?_)
      | refine oS (h := ?_)
      | refine oN (h := ?_)
      | refine oNg (h := ?_)
      | refine oA (h := ?_)
      | fail)
    | fail

set_option maxRecDepth 100000 in
set_option maxHeartbeats 8000000 in
theorem bits_LeadingZeros32.holds {mx : Int} (a0 : Int) (r : Int) (h : bits_LeadingZeros32.f a0 = some r) : Holds Tryd.prog (G0 mx) 109 [] [.int .u32 a0] (.int .i64 r) [] := by
  refine holds_of_sim (fun (r : Int) => (.int .i64 r, [])) h Tryd.func109 rfl (by kernel_rfl) 6 rfl (by simp) (by simp) [(0, .int .u32 a0)] rfl [] rfl [.tmp 2] rfl ?_
  clear h
  unfold bits_LeadingZeros32.f
  refine sim_mk ?_
  repeat' first
    | ((with_reducible refine gS ?_); first
      | with_reducible refine sim_seq ?_
      | with_reducible refine sim_block ?_
      | with_reducible refine sim_skip ?_
      | with_reducible refine sim_inBlock ?_
      | with_reducible exact sim_none
      | refine sR (h := ?_)
      | refine sX (h := ?_)
      | refine sD (hm := by exact mixed) (h := ?_)
      | ((with_reducible refine sGb ?_); refine sTe (h := ?_))
      | ((with_reducible refine sGb ?_); refine sFd (h := ?_))
      | ((with_reducible refine sGb ?_); refine sTb (h := ?_))
      | ((with_reducible refine sGb ?_); refine sFb (h := ?_))
      | with_reducible refine sIn (fun hb => ?_) (fun hb => ?_)
      | with_reducible refine sBd (fun hb hc => ?_) (fun hb hc => ?_) (fun hb hc => ?_) (fun hb hc => ?_)
      | ((with_reducible refine sGb ?_); refine sIb (fun hb => ?_) (fun hb => ?_))
      | with_reducible refine sIw (fun r1 r2 r3 r4 => ?_)
      | with_reducible refine sIz (fun r1 r2 r3 r4 => ?_)
      | ((with_reducible refine sGi ?_); refine sT (h := ?_))
      | ((with_reducible refine sGi ?_); refine sF' (h := ?_))
      | ((with_reducible refine sGi ?_); refine sI (fun hb hc => ?_) (fun hb hc => ?_))
      | with_reducible refine sim_let ?_
      | refine sY (h := ?_)
      | refine sN (h := ?_)
      | refine sF [] false
      | refine sFe [] false
      | fail)
    | ((with_reducible refine gO ?_); first
      | with_reducible exact simO_none
      | ((with_reducible refine oGb ?_); refine oTe (h := ?_))
      | ((with_reducible refine oGb ?_); refine oFd (h := ?_))
      | ((with_reducible refine oGb ?_); refine oTb (h := ?_))
      | ((with_reducible refine oGb ?_); refine oFb (h := ?_))
      | with_reducible refine oIn (fun hb => ?_) (fun hb => ?_)
      | with_reducible refine oBd (fun hb hc => ?_) (fun hb hc => ?_) (fun hb hc => ?_) (fun hb hc => ?_)
      | ((with_reducible refine oGb ?_); refine oIb (fun hb => ?_) (fun hb => ?_))
      | with_reducible refine oIw (fun r1 r2 r3 r4 => ?_)
      | with_reducible refine oIz (fun r1 r2 r3 r4 => ?_)
      | ((with_reducible refine oGi ?_); refine oT (h := ?_))
      | ((with_reducible refine oGi ?_); refine oF' (h := ?_))
      | ((with_reducible refine oGi ?_); refine oI (fun hb hc => ?_) (fun hb hc => ?_))
      | with_reducible refine simO_let ?_
      | refine simO_nil ?_
      | ((with_reducible refine gC ?_); first
        | refine oC true (hh := fun t ht => bits_Len32.holds _ t ht) (h := fun t => ?_)
        | refine oCg true (hh := fun t ht => bits_Len32.holds _ t ht) (h := fun t => ?_)
        | fail)
      | refine oV (h := ?_)
      | refine oVg (h := ?_)
      | refine oKg (h := ?_)
      | refine oKu (h := ?_)
      | refine oS (h := ?_)
      | refine oN (h := ?_)
      | refine oNg (h := ?_)
      | refine oA (h := ?_)
      | fail)
    | fail

end Go.Proofs.YtnilfndadahgaaaDoor.P

/- Contracts: each Go function of a package comes to its plain function. -/
import Derived.Test.YtnilfndadahgaaaDoorMb
import Derived.Test.YtnilfndadahgaaaDoorMx
set_option linter.unusedVariables false
set_option linter.unusedSimpArgs false
namespace Go.Proofs.YtnilfndadahgaaaDoor.P
open Go Go.RowKit Go.Proofs.YtnilfndadahgaaaDoor.Am Go.Proofs.YtnilfndadahgaaaDoorW.PrintWords Go.Proofs.YtnilfndadahgaaaDoorW.PrintMore
attribute [local irreducible] cpy rd bt strOfNums ByteArray.extract
attribute [local go_sem] List.length_set takeLi catA Int.zero_mul getI0 getI1 rdN cpyL1 tlE m8 strE takeD catE szE takeS beqI bneI List.length_replicate cpyL cpyLi cplE Int.le_refl beqD Int.zero_sub Bool.false_or Bool.or_true List.length_cons List.length_nil getI Int.toNat_zero kl_apply ne_eq not_false_eq_true not_true_eq_false subE actE evE rwE wrE mapE rdE tyE act vl vo bn bnI bnS un cvt idx idxA ld st part setPart ptrFd cut optI lenV mkAgg fillA Pl.at litE deepS deepL deep deepAll srcL srcN cpA apA tags tagS tagOk sizedAs killV killA killS need shE AV.scalar decide_true decide_false cond_true cond_false Bool.and_true Bool.true_and Bool.and_self Bool.not_true Bool.not_false Bool.and_false Bool.false_and Option.isNone_none Option.isNone_some List.map_cons List.map_nil Option.map_some Option.map_none List.getD_cons_zero List.getD_cons_succ List.getElem?_cons_zero List.getElem?_cons_succ List.length_cons List.length_nil List.all_cons List.all_nil List.all_map List.contains_nil List.contains_cons List.flatMap_cons List.flatMap_nil List.nil_append List.cons_append List.append_nil List.set_cons_zero List.set_cons_succ List.take_zero List.take_succ_cons List.drop_zero List.drop_succ_cons List.take_nil List.drop_nil Nat.zero_add Nat.add_zero Nat.sub_zero Function.comp_def bne_self_eq_false
set_option maxRecDepth 100000 in
set_option maxHeartbeats 8000000 in
theorem stringslite_HasPrefix.holds (a0 : ByteArray) (a1 : ByteArray) (r : Bool) (h : stringslite_HasPrefix.f a0 a1 = some r) : Holds Tryd.prog G0 104 [] [.str a0, .str a1] (.bool r) [] := by
  refine holds_of_sim (fun (r : Bool) => (.bool r, [])) h Tryd.func104 rfl (by kernel_rfl) 18 rfl (by simp) (by simp) [(0, .str a0), (1, .str a1)] rfl [] rfl [.tmp 4] rfl ?_
  clear h
  unfold stringslite_HasPrefix.f
  refine sim_mk ?_
  repeat' first
    | ((with_reducible refine gS ?_); first
      | with_reducible refine sim_seq ?_
      | with_reducible refine sim_block ?_
      | with_reducible refine sim_skip ?_
      | with_reducible refine sim_inBlock ?_
      | with_reducible exact sim_none
      | refine sR (h := ?_)
      | refine sX (h := ?_)
      | refine sD (hm := by exact mixed) (h := ?_)
      | ((with_reducible refine sGb ?_); refine sTe (h := ?_))
      | ((with_reducible refine sGb ?_); refine sFd (h := ?_))
      | ((with_reducible refine sGb ?_); refine sTb (h := ?_))
      | ((with_reducible refine sGb ?_); refine sFb (h := ?_))
      | with_reducible refine sIn (fun hb => ?_) (fun hb => ?_)
      | ((with_reducible refine sGb ?_); refine sIb (fun hb => ?_) (fun hb => ?_))
      | with_reducible refine sIw (fun r1 r2 r3 r4 => ?_)
      | with_reducible refine sIz (fun r1 r2 r3 r4 => ?_)
      | ((with_reducible refine sGi ?_); refine sT (h := ?_))
      | ((with_reducible refine sGi ?_); refine sF' (h := ?_))
      | ((with_reducible refine sGi ?_); refine sI (fun hb hc => ?_) (fun hb hc => ?_))
      | with_reducible refine sim_let ?_
      | refine sY (h := ?_)
      | refine sN (h := ?_)
      | refine sF [] false
      | refine sFe [] false
      | fail)
    | ((with_reducible refine gO ?_); first
      | with_reducible exact simO_none
      | ((with_reducible refine oGb ?_); refine oTe (h := ?_))
      | ((with_reducible refine oGb ?_); refine oFd (h := ?_))
      | ((with_reducible refine oGb ?_); refine oTb (h := ?_))
      | ((with_reducible refine oGb ?_); refine oFb (h := ?_))
      | with_reducible refine oIn (fun hb => ?_) (fun hb => ?_)
      | ((with_reducible refine oGb ?_); refine oIb (fun hb => ?_) (fun hb => ?_))
      | with_reducible refine oIw (fun r1 r2 r3 r4 => ?_)
      | with_reducible refine oIz (fun r1 r2 r3 r4 => ?_)
      | ((with_reducible refine oGi ?_); refine oT (h := ?_))
      | ((with_reducible refine oGi ?_); refine oF' (h := ?_))
      | ((with_reducible refine oGi ?_); refine oI (fun hb hc => ?_) (fun hb hc => ?_))
      | with_reducible refine simO_let ?_
      | refine simO_nil ?_
      | refine oV (h := ?_)
      | refine oVg (h := ?_)
      | refine oKg (h := ?_)
      | refine oKu (h := ?_)
      | refine oS (h := ?_)
      | refine oN (h := ?_)
      | refine oNg (h := ?_)
      | refine oA (h := ?_)
      | fail)
    | fail

set_option maxRecDepth 100000 in
set_option maxHeartbeats 8000000 in
theorem stringslite_CutPrefix.holds (a0 : ByteArray) (a1 : ByteArray) (r : ByteArray × Bool) (h : stringslite_CutPrefix.f a0 a1 = some r) : Holds Tryd.prog G0 77 [] [.str a0, .str a1] (.tup [.str r.1, .bool r.2]) [] := by
  refine holds_of_sim (fun (r : ByteArray × Bool) => (.tup [.str r.1, .bool r.2], [])) h Tryd.func77 rfl (by kernel_rfl) 15 rfl (by simp) (by simp) [(0, .str a0), (1, .str a1)] rfl [] rfl [.tmp 4, .tmp 5] rfl ?_
  clear h
  unfold stringslite_CutPrefix.f
  refine sim_mk ?_
  repeat' first
    | ((with_reducible refine gS ?_); first
      | with_reducible refine sim_seq ?_
      | with_reducible refine sim_block ?_
      | with_reducible refine sim_skip ?_
      | with_reducible refine sim_inBlock ?_
      | with_reducible exact sim_none
      | refine sR (h := ?_)
      | refine sX (h := ?_)
      | refine sD (hm := by exact mixed) (h := ?_)
      | ((with_reducible refine sGb ?_); refine sTe (h := ?_))
      | ((with_reducible refine sGb ?_); refine sFd (h := ?_))
      | ((with_reducible refine sGb ?_); refine sTb (h := ?_))
      | ((with_reducible refine sGb ?_); refine sFb (h := ?_))
      | with_reducible refine sIn (fun hb => ?_) (fun hb => ?_)
      | ((with_reducible refine sGb ?_); refine sIb (fun hb => ?_) (fun hb => ?_))
      | with_reducible refine sIw (fun r1 r2 r3 r4 => ?_)
      | with_reducible refine sIz (fun r1 r2 r3 r4 => ?_)
      | ((with_reducible refine sGi ?_); refine sT (h := ?_))
      | ((with_reducible refine sGi ?_); refine sF' (h := ?_))
      | ((with_reducible refine sGi ?_); refine sI (fun hb hc => ?_) (fun hb hc => ?_))
      | with_reducible refine sim_let ?_
      | refine sY (h := ?_)
      | refine sN (h := ?_)
      | refine sF [] false
      | refine sFe [] false
      | fail)
    | ((with_reducible refine gO ?_); first
      | with_reducible exact simO_none
      | ((with_reducible refine oGb ?_); refine oTe (h := ?_))
      | ((with_reducible refine oGb ?_); refine oFd (h := ?_))
      | ((with_reducible refine oGb ?_); refine oTb (h := ?_))
      | ((with_reducible refine oGb ?_); refine oFb (h := ?_))
      | with_reducible refine oIn (fun hb => ?_) (fun hb => ?_)
      | ((with_reducible refine oGb ?_); refine oIb (fun hb => ?_) (fun hb => ?_))
      | with_reducible refine oIw (fun r1 r2 r3 r4 => ?_)
      | with_reducible refine oIz (fun r1 r2 r3 r4 => ?_)
      | ((with_reducible refine oGi ?_); refine oT (h := ?_))
      | ((with_reducible refine oGi ?_); refine oF' (h := ?_))
      | ((with_reducible refine oGi ?_); refine oI (fun hb hc => ?_) (fun hb hc => ?_))
      | with_reducible refine simO_let ?_
      | refine simO_nil ?_
      | ((with_reducible refine gC ?_); first
        | refine oC true (hh := fun t ht => stringslite_HasPrefix.holds _ _ t ht) (h := fun t => ?_)
        | refine oCg true (hh := fun t ht => stringslite_HasPrefix.holds _ _ t ht) (h := fun t => ?_)
        | fail)
      | refine oV (h := ?_)
      | refine oVg (h := ?_)
      | refine oKg (h := ?_)
      | refine oKu (h := ?_)
      | refine oS (h := ?_)
      | refine oN (h := ?_)
      | refine oNg (h := ?_)
      | refine oA (h := ?_)
      | fail)
    | fail

set_option maxRecDepth 100000 in
set_option maxHeartbeats 8000000 in
theorem strings_CutPrefix.holds (a0 : ByteArray) (a1 : ByteArray) (r : ByteArray × Bool) (h : strings_CutPrefix.f a0 a1 = some r) : Holds Tryd.prog G0 47 [] [.str a0, .str a1] (.tup [.str r.1, .bool r.2]) [] := by
  refine holds_of_sim (fun (r : ByteArray × Bool) => (.tup [.str r.1, .bool r.2], [])) h Tryd.func47 rfl (by kernel_rfl) 11 rfl (by simp) (by simp) [(0, .str a0), (1, .str a1)] rfl [] rfl [.tmp 4, .tmp 5] rfl ?_
  clear h
  unfold strings_CutPrefix.f
  refine sim_mk ?_
  repeat' first
    | ((with_reducible refine gS ?_); first
      | with_reducible refine sim_seq ?_
      | with_reducible refine sim_block ?_
      | with_reducible refine sim_skip ?_
      | with_reducible refine sim_inBlock ?_
      | with_reducible exact sim_none
      | refine sR (h := ?_)
      | refine sX (h := ?_)
      | refine sD (hm := by exact mixed) (h := ?_)
      | ((with_reducible refine sGb ?_); refine sTe (h := ?_))
      | ((with_reducible refine sGb ?_); refine sFd (h := ?_))
      | ((with_reducible refine sGb ?_); refine sTb (h := ?_))
      | ((with_reducible refine sGb ?_); refine sFb (h := ?_))
      | with_reducible refine sIn (fun hb => ?_) (fun hb => ?_)
      | ((with_reducible refine sGb ?_); refine sIb (fun hb => ?_) (fun hb => ?_))
      | with_reducible refine sIw (fun r1 r2 r3 r4 => ?_)
      | with_reducible refine sIz (fun r1 r2 r3 r4 => ?_)
      | ((with_reducible refine sGi ?_); refine sT (h := ?_))
      | ((with_reducible refine sGi ?_); refine sF' (h := ?_))
      | ((with_reducible refine sGi ?_); refine sI (fun hb hc => ?_) (fun hb hc => ?_))
      | with_reducible refine sim_let ?_
      | refine sY (h := ?_)
      | refine sN (h := ?_)
      | refine sF [] false
      | refine sFe [] false
      | fail)
    | ((with_reducible refine gO ?_); first
      | with_reducible exact simO_none
      | ((with_reducible refine oGb ?_); refine oTe (h := ?_))
      | ((with_reducible refine oGb ?_); refine oFd (h := ?_))
      | ((with_reducible refine oGb ?_); refine oTb (h := ?_))
      | ((with_reducible refine oGb ?_); refine oFb (h := ?_))
      | with_reducible refine oIn (fun hb => ?_) (fun hb => ?_)
      | ((with_reducible refine oGb ?_); refine oIb (fun hb => ?_) (fun hb => ?_))
      | with_reducible refine oIw (fun r1 r2 r3 r4 => ?_)
      | with_reducible refine oIz (fun r1 r2 r3 r4 => ?_)
      | ((with_reducible refine oGi ?_); refine oT (h := ?_))
      | ((with_reducible refine oGi ?_); refine oF' (h := ?_))
      | ((with_reducible refine oGi ?_); refine oI (fun hb hc => ?_) (fun hb hc => ?_))
      | with_reducible refine simO_let ?_
      | refine simO_nil ?_
      | ((with_reducible refine gC ?_); first
        | refine oC true (hh := fun t ht => stringslite_CutPrefix.holds _ _ t ht) (h := fun t => ?_)
        | refine oCg true (hh := fun t ht => stringslite_CutPrefix.holds _ _ t ht) (h := fun t => ?_)
        | fail)
      | refine oV (h := ?_)
      | refine oVg (h := ?_)
      | refine oKg (h := ?_)
      | refine oKu (h := ?_)
      | refine oS (h := ?_)
      | refine oN (h := ?_)
      | refine oNg (h := ?_)
      | refine oA (h := ?_)
      | fail)
    | fail

set_option maxRecDepth 100000 in
set_option maxHeartbeats 8000000 in
theorem bits_Add32.holds (a0 : Int) (a1 : Int) (a2 : Int) (r : Int × Int) (h : bits_Add32.f a0 a1 a2 = some r) : Holds Tryd.prog G0 84 [] [.int .u32 a0, .int .u32 a1, .int .u32 a2] (.tup [.int .u32 r.1, .int .u32 r.2]) [] := by
  refine holds_of_sim (fun (r : Int × Int) => (.tup [.int .u32 r.1, .int .u32 r.2], [])) h Tryd.func84 rfl (by kernel_rfl) 22 rfl (by simp) (by simp) [(0, .int .u32 a0), (1, .int .u32 a1), (2, .int .u32 a2)] rfl [] rfl [.tmp 6, .tmp 7] rfl ?_
  clear h
  unfold bits_Add32.f
  refine sim_mk ?_
  repeat' first
    | ((with_reducible refine gS ?_); first
      | with_reducible refine sim_seq ?_
      | with_reducible refine sim_block ?_
      | with_reducible refine sim_skip ?_
      | with_reducible refine sim_inBlock ?_
      | with_reducible exact sim_none
      | refine sR (h := ?_)
      | refine sX (h := ?_)
      | refine sD (hm := by exact mixed) (h := ?_)
      | ((with_reducible refine sGb ?_); refine sTe (h := ?_))
      | ((with_reducible refine sGb ?_); refine sFd (h := ?_))
      | ((with_reducible refine sGb ?_); refine sTb (h := ?_))
      | ((with_reducible refine sGb ?_); refine sFb (h := ?_))
      | with_reducible refine sIn (fun hb => ?_) (fun hb => ?_)
      | ((with_reducible refine sGb ?_); refine sIb (fun hb => ?_) (fun hb => ?_))
      | with_reducible refine sIw (fun r1 r2 r3 r4 => ?_)
      | with_reducible refine sIz (fun r1 r2 r3 r4 => ?_)
      | ((with_reducible refine sGi ?_); refine sT (h := ?_))
      | ((with_reducible refine sGi ?_); refine sF' (h := ?_))
      | ((with_reducible refine sGi ?_); refine sI (fun hb hc => ?_) (fun hb hc => ?_))
      | with_reducible refine sim_let ?_
      | refine sY (h := ?_)
      | refine sN (h := ?_)
      | refine sF [] false
      | refine sFe [] false
      | fail)
    | ((with_reducible refine gO ?_); first
      | with_reducible exact simO_none
      | ((with_reducible refine oGb ?_); refine oTe (h := ?_))
      | ((with_reducible refine oGb ?_); refine oFd (h := ?_))
      | ((with_reducible refine oGb ?_); refine oTb (h := ?_))
      | ((with_reducible refine oGb ?_); refine oFb (h := ?_))
      | with_reducible refine oIn (fun hb => ?_) (fun hb => ?_)
      | ((with_reducible refine oGb ?_); refine oIb (fun hb => ?_) (fun hb => ?_))
      | with_reducible refine oIw (fun r1 r2 r3 r4 => ?_)
      | with_reducible refine oIz (fun r1 r2 r3 r4 => ?_)
      | ((with_reducible refine oGi ?_); refine oT (h := ?_))
      | ((with_reducible refine oGi ?_); refine oF' (h := ?_))
      | ((with_reducible refine oGi ?_); refine oI (fun hb hc => ?_) (fun hb hc => ?_))
      | with_reducible refine simO_let ?_
      | refine simO_nil ?_
      | refine oV (h := ?_)
      | refine oVg (h := ?_)
      | refine oKg (h := ?_)
      | refine oKu (h := ?_)
      | refine oS (h := ?_)
      | refine oN (h := ?_)
      | refine oNg (h := ?_)
      | refine oA (h := ?_)
      | fail)
    | fail

set_option maxRecDepth 100000 in
set_option maxHeartbeats 8000000 in
theorem cmp_isNaN_int.holds (a0 : Int) (r : Bool) (h : cmp_isNaN_int.f a0 = some r) : Holds Tryd.prog G0 105 [] [.int .i64 a0] (.bool r) [] := by
  refine holds_of_sim (fun (r : Bool) => (.bool r, [])) h Tryd.func105 rfl (by kernel_rfl) 6 rfl (by simp) (by simp) [(0, .int .i64 a0)] rfl [] rfl [.tmp 2] rfl ?_
  clear h
  unfold cmp_isNaN_int.f
  refine sim_mk ?_
  repeat' first
    | ((with_reducible refine gS ?_); first
      | with_reducible refine sim_seq ?_
      | with_reducible refine sim_block ?_
      | with_reducible refine sim_skip ?_
      | with_reducible refine sim_inBlock ?_
      | with_reducible exact sim_none
      | refine sR (h := ?_)
      | refine sX (h := ?_)
      | refine sD (hm := by exact mixed) (h := ?_)
      | ((with_reducible refine sGb ?_); refine sTe (h := ?_))
      | ((with_reducible refine sGb ?_); refine sFd (h := ?_))
      | ((with_reducible refine sGb ?_); refine sTb (h := ?_))
      | ((with_reducible refine sGb ?_); refine sFb (h := ?_))
      | with_reducible refine sIn (fun hb => ?_) (fun hb => ?_)
      | ((with_reducible refine sGb ?_); refine sIb (fun hb => ?_) (fun hb => ?_))
      | with_reducible refine sIw (fun r1 r2 r3 r4 => ?_)
      | with_reducible refine sIz (fun r1 r2 r3 r4 => ?_)
      | ((with_reducible refine sGi ?_); refine sT (h := ?_))
      | ((with_reducible refine sGi ?_); refine sF' (h := ?_))
      | ((with_reducible refine sGi ?_); refine sI (fun hb hc => ?_) (fun hb hc => ?_))
      | with_reducible refine sim_let ?_
      | refine sY (h := ?_)
      | refine sN (h := ?_)
      | refine sF [] false
      | refine sFe [] false
      | fail)
    | ((with_reducible refine gO ?_); first
      | with_reducible exact simO_none
      | ((with_reducible refine oGb ?_); refine oTe (h := ?_))
      | ((with_reducible refine oGb ?_); refine oFd (h := ?_))
      | ((with_reducible refine oGb ?_); refine oTb (h := ?_))
      | ((with_reducible refine oGb ?_); refine oFb (h := ?_))
      | with_reducible refine oIn (fun hb => ?_) (fun hb => ?_)
      | ((with_reducible refine oGb ?_); refine oIb (fun hb => ?_) (fun hb => ?_))
      | with_reducible refine oIw (fun r1 r2 r3 r4 => ?_)
      | with_reducible refine oIz (fun r1 r2 r3 r4 => ?_)
      | ((with_reducible refine oGi ?_); refine oT (h := ?_))
      | ((with_reducible refine oGi ?_); refine oF' (h := ?_))
      | ((with_reducible refine oGi ?_); refine oI (fun hb hc => ?_) (fun hb hc => ?_))
      | with_reducible refine simO_let ?_
      | refine simO_nil ?_
      | refine oV (h := ?_)
      | refine oVg (h := ?_)
      | refine oKg (h := ?_)
      | refine oKu (h := ?_)
      | refine oS (h := ?_)
      | refine oN (h := ?_)
      | refine oNg (h := ?_)
      | refine oA (h := ?_)
      | fail)
    | fail

set_option maxRecDepth 100000 in
set_option maxHeartbeats 8000000 in
theorem cmp_Compare_int.holds (a0 : Int) (a1 : Int) (r : Int) (h : cmp_Compare_int.f a0 a1 = some r) : Holds Tryd.prog G0 89 [] [.int .i64 a0, .int .i64 a1] (.int .i64 r) [] := by
  refine holds_of_sim (fun (r : Int) => (.int .i64 r, [])) h Tryd.func89 rfl (by kernel_rfl) 20 rfl (by simp) (by simp) [(0, .int .i64 a0), (1, .int .i64 a1)] rfl [] rfl [.tmp 4] rfl ?_
  clear h
  unfold cmp_Compare_int.f
  refine sim_mk ?_
  repeat' first
    | ((with_reducible refine gS ?_); first
      | with_reducible refine sim_seq ?_
      | with_reducible refine sim_block ?_
      | with_reducible refine sim_skip ?_
      | with_reducible refine sim_inBlock ?_
      | with_reducible exact sim_none
      | refine sR (h := ?_)
      | refine sX (h := ?_)
      | refine sD (hm := by exact mixed) (h := ?_)
      | ((with_reducible refine sGb ?_); refine sTe (h := ?_))
      | ((with_reducible refine sGb ?_); refine sFd (h := ?_))
      | ((with_reducible refine sGb ?_); refine sTb (h := ?_))
      | ((with_reducible refine sGb ?_); refine sFb (h := ?_))
      | with_reducible refine sIn (fun hb => ?_) (fun hb => ?_)
      | ((with_reducible refine sGb ?_); refine sIb (fun hb => ?_) (fun hb => ?_))
      | with_reducible refine sIw (fun r1 r2 r3 r4 => ?_)
      | with_reducible refine sIz (fun r1 r2 r3 r4 => ?_)
      | ((with_reducible refine sGi ?_); refine sT (h := ?_))
      | ((with_reducible refine sGi ?_); refine sF' (h := ?_))
      | ((with_reducible refine sGi ?_); refine sI (fun hb hc => ?_) (fun hb hc => ?_))
      | with_reducible refine sim_let ?_
      | refine sY (h := ?_)
      | refine sN (h := ?_)
      | refine sF [] false
      | refine sFe [] false
      | fail)
    | ((with_reducible refine gO ?_); first
      | with_reducible exact simO_none
      | ((with_reducible refine oGb ?_); refine oTe (h := ?_))
      | ((with_reducible refine oGb ?_); refine oFd (h := ?_))
      | ((with_reducible refine oGb ?_); refine oTb (h := ?_))
      | ((with_reducible refine oGb ?_); refine oFb (h := ?_))
      | with_reducible refine oIn (fun hb => ?_) (fun hb => ?_)
      | ((with_reducible refine oGb ?_); refine oIb (fun hb => ?_) (fun hb => ?_))
      | with_reducible refine oIw (fun r1 r2 r3 r4 => ?_)
      | with_reducible refine oIz (fun r1 r2 r3 r4 => ?_)
      | ((with_reducible refine oGi ?_); refine oT (h := ?_))
      | ((with_reducible refine oGi ?_); refine oF' (h := ?_))
      | ((with_reducible refine oGi ?_); refine oI (fun hb hc => ?_) (fun hb hc => ?_))
      | with_reducible refine simO_let ?_
      | refine simO_nil ?_
      | ((with_reducible refine gC ?_); first
        | refine oC true (hh := fun t ht => cmp_isNaN_int.holds _ t ht) (h := fun t => ?_)
        | refine oCg true (hh := fun t ht => cmp_isNaN_int.holds _ t ht) (h := fun t => ?_)
        | fail)
      | refine oV (h := ?_)
      | refine oVg (h := ?_)
      | refine oKg (h := ?_)
      | refine oKu (h := ?_)
      | refine oS (h := ?_)
      | refine oN (h := ?_)
      | refine oNg (h := ?_)
      | refine oA (h := ?_)
      | fail)
    | fail

set_option maxRecDepth 100000 in
set_option maxHeartbeats 8000000 in
theorem cmp_isNaN_uint32.holds (a0 : Int) (r : Bool) (h : cmp_isNaN_uint32.f a0 = some r) : Holds Tryd.prog G0 106 [] [.int .u32 a0] (.bool r) [] := by
  refine holds_of_sim (fun (r : Bool) => (.bool r, [])) h Tryd.func106 rfl (by kernel_rfl) 6 rfl (by simp) (by simp) [(0, .int .u32 a0)] rfl [] rfl [.tmp 2] rfl ?_
  clear h
  unfold cmp_isNaN_uint32.f
  refine sim_mk ?_
  repeat' first
    | ((with_reducible refine gS ?_); first
      | with_reducible refine sim_seq ?_
      | with_reducible refine sim_block ?_
      | with_reducible refine sim_skip ?_
      | with_reducible refine sim_inBlock ?_
      | with_reducible exact sim_none
      | refine sR (h := ?_)
      | refine sX (h := ?_)
      | refine sD (hm := by exact mixed) (h := ?_)
      | ((with_reducible refine sGb ?_); refine sTe (h := ?_))
      | ((with_reducible refine sGb ?_); refine sFd (h := ?_))
      | ((with_reducible refine sGb ?_); refine sTb (h := ?_))
      | ((with_reducible refine sGb ?_); refine sFb (h := ?_))
      | with_reducible refine sIn (fun hb => ?_) (fun hb => ?_)
      | ((with_reducible refine sGb ?_); refine sIb (fun hb => ?_) (fun hb => ?_))
      | with_reducible refine sIw (fun r1 r2 r3 r4 => ?_)
      | with_reducible refine sIz (fun r1 r2 r3 r4 => ?_)
      | ((with_reducible refine sGi ?_); refine sT (h := ?_))
      | ((with_reducible refine sGi ?_); refine sF' (h := ?_))
      | ((with_reducible refine sGi ?_); refine sI (fun hb hc => ?_) (fun hb hc => ?_))
      | with_reducible refine sim_let ?_
      | refine sY (h := ?_)
      | refine sN (h := ?_)
      | refine sF [] false
      | refine sFe [] false
      | fail)
    | ((with_reducible refine gO ?_); first
      | with_reducible exact simO_none
      | ((with_reducible refine oGb ?_); refine oTe (h := ?_))
      | ((with_reducible refine oGb ?_); refine oFd (h := ?_))
      | ((with_reducible refine oGb ?_); refine oTb (h := ?_))
      | ((with_reducible refine oGb ?_); refine oFb (h := ?_))
      | with_reducible refine oIn (fun hb => ?_) (fun hb => ?_)
      | ((with_reducible refine oGb ?_); refine oIb (fun hb => ?_) (fun hb => ?_))
      | with_reducible refine oIw (fun r1 r2 r3 r4 => ?_)
      | with_reducible refine oIz (fun r1 r2 r3 r4 => ?_)
      | ((with_reducible refine oGi ?_); refine oT (h := ?_))
      | ((with_reducible refine oGi ?_); refine oF' (h := ?_))
      | ((with_reducible refine oGi ?_); refine oI (fun hb hc => ?_) (fun hb hc => ?_))
      | with_reducible refine simO_let ?_
      | refine simO_nil ?_
      | refine oV (h := ?_)
      | refine oVg (h := ?_)
      | refine oKg (h := ?_)
      | refine oKu (h := ?_)
      | refine oS (h := ?_)
      | refine oN (h := ?_)
      | refine oNg (h := ?_)
      | refine oA (h := ?_)
      | fail)
    | fail

set_option maxRecDepth 100000 in
set_option maxHeartbeats 8000000 in
theorem cmp_Compare_uint32.holds (a0 : Int) (a1 : Int) (r : Int) (h : cmp_Compare_uint32.f a0 a1 = some r) : Holds Tryd.prog G0 90 [] [.int .u32 a0, .int .u32 a1] (.int .i64 r) [] := by
  refine holds_of_sim (fun (r : Int) => (.int .i64 r, [])) h Tryd.func90 rfl (by kernel_rfl) 20 rfl (by simp) (by simp) [(0, .int .u32 a0), (1, .int .u32 a1)] rfl [] rfl [.tmp 4] rfl ?_
  clear h
  unfold cmp_Compare_uint32.f
  refine sim_mk ?_
  repeat' first
    | ((with_reducible refine gS ?_); first
      | with_reducible refine sim_seq ?_
      | with_reducible refine sim_block ?_
      | with_reducible refine sim_skip ?_
      | with_reducible refine sim_inBlock ?_
      | with_reducible exact sim_none
      | refine sR (h := ?_)
      | refine sX (h := ?_)
      | refine sD (hm := by exact mixed) (h := ?_)
      | ((with_reducible refine sGb ?_); refine sTe (h := ?_))
      | ((with_reducible refine sGb ?_); refine sFd (h := ?_))
      | ((with_reducible refine sGb ?_); refine sTb (h := ?_))
      | ((with_reducible refine sGb ?_); refine sFb (h := ?_))
      | with_reducible refine sIn (fun hb => ?_) (fun hb => ?_)
      | ((with_reducible refine sGb ?_); refine sIb (fun hb => ?_) (fun hb => ?_))
      | with_reducible refine sIw (fun r1 r2 r3 r4 => ?_)
      | with_reducible refine sIz (fun r1 r2 r3 r4 => ?_)
      | ((with_reducible refine sGi ?_); refine sT (h := ?_))
      | ((with_reducible refine sGi ?_); refine sF' (h := ?_))
      | ((with_reducible refine sGi ?_); refine sI (fun hb hc => ?_) (fun hb hc => ?_))
      | with_reducible refine sim_let ?_
      | refine sY (h := ?_)
      | refine sN (h := ?_)
      | refine sF [] false
      | refine sFe [] false
      | fail)
    | ((with_reducible refine gO ?_); first
      | with_reducible exact simO_none
      | ((with_reducible refine oGb ?_); refine oTe (h := ?_))
      | ((with_reducible refine oGb ?_); refine oFd (h := ?_))
      | ((with_reducible refine oGb ?_); refine oTb (h := ?_))
      | ((with_reducible refine oGb ?_); refine oFb (h := ?_))
      | with_reducible refine oIn (fun hb => ?_) (fun hb => ?_)
      | ((with_reducible refine oGb ?_); refine oIb (fun hb => ?_) (fun hb => ?_))
      | with_reducible refine oIw (fun r1 r2 r3 r4 => ?_)
      | with_reducible refine oIz (fun r1 r2 r3 r4 => ?_)
      | ((with_reducible refine oGi ?_); refine oT (h := ?_))
      | ((with_reducible refine oGi ?_); refine oF' (h := ?_))
      | ((with_reducible refine oGi ?_); refine oI (fun hb hc => ?_) (fun hb hc => ?_))
      | with_reducible refine simO_let ?_
      | refine simO_nil ?_
      | ((with_reducible refine gC ?_); first
        | refine oC true (hh := fun t ht => cmp_isNaN_uint32.holds _ t ht) (h := fun t => ?_)
        | refine oCg true (hh := fun t ht => cmp_isNaN_uint32.holds _ t ht) (h := fun t => ?_)
        | fail)
      | refine oV (h := ?_)
      | refine oVg (h := ?_)
      | refine oKg (h := ?_)
      | refine oKu (h := ?_)
      | refine oS (h := ?_)
      | refine oN (h := ?_)
      | refine oNg (h := ?_)
      | refine oA (h := ?_)
      | fail)
    | fail

set_option maxRecDepth 100000 in
set_option maxHeartbeats 8000000 in
theorem bits_Sub32.holds (a0 : Int) (a1 : Int) (a2 : Int) (r : Int × Int) (h : bits_Sub32.f a0 a1 a2 = some r) : Holds Tryd.prog G0 86 [] [.int .u32 a0, .int .u32 a1, .int .u32 a2] (.tup [.int .u32 r.1, .int .u32 r.2]) [] := by
  refine holds_of_sim (fun (r : Int × Int) => (.tup [.int .u32 r.1, .int .u32 r.2], [])) h Tryd.func86 rfl (by kernel_rfl) 25 rfl (by simp) (by simp) [(0, .int .u32 a0), (1, .int .u32 a1), (2, .int .u32 a2)] rfl [] rfl [.tmp 6, .tmp 7] rfl ?_
  clear h
  unfold bits_Sub32.f
  refine sim_mk ?_
  repeat' first
    | ((with_reducible refine gS ?_); first
      | with_reducible refine sim_seq ?_
      | with_reducible refine sim_block ?_
      | with_reducible refine sim_skip ?_
      | with_reducible refine sim_inBlock ?_
      | with_reducible exact sim_none
      | refine sR (h := ?_)
      | refine sX (h := ?_)
      | refine sD (hm := by exact mixed) (h := ?_)
      | ((with_reducible refine sGb ?_); refine sTe (h := ?_))
      | ((with_reducible refine sGb ?_); refine sFd (h := ?_))
      | ((with_reducible refine sGb ?_); refine sTb (h := ?_))
      | ((with_reducible refine sGb ?_); refine sFb (h := ?_))
      | with_reducible refine sIn (fun hb => ?_) (fun hb => ?_)
      | ((with_reducible refine sGb ?_); refine sIb (fun hb => ?_) (fun hb => ?_))
      | with_reducible refine sIw (fun r1 r2 r3 r4 => ?_)
      | with_reducible refine sIz (fun r1 r2 r3 r4 => ?_)
      | ((with_reducible refine sGi ?_); refine sT (h := ?_))
      | ((with_reducible refine sGi ?_); refine sF' (h := ?_))
      | ((with_reducible refine sGi ?_); refine sI (fun hb hc => ?_) (fun hb hc => ?_))
      | with_reducible refine sim_let ?_
      | refine sY (h := ?_)
      | refine sN (h := ?_)
      | refine sF [] false
      | refine sFe [] false
      | fail)
    | ((with_reducible refine gO ?_); first
      | with_reducible exact simO_none
      | ((with_reducible refine oGb ?_); refine oTe (h := ?_))
      | ((with_reducible refine oGb ?_); refine oFd (h := ?_))
      | ((with_reducible refine oGb ?_); refine oTb (h := ?_))
      | ((with_reducible refine oGb ?_); refine oFb (h := ?_))
      | with_reducible refine oIn (fun hb => ?_) (fun hb => ?_)
      | ((with_reducible refine oGb ?_); refine oIb (fun hb => ?_) (fun hb => ?_))
      | with_reducible refine oIw (fun r1 r2 r3 r4 => ?_)
      | with_reducible refine oIz (fun r1 r2 r3 r4 => ?_)
      | ((with_reducible refine oGi ?_); refine oT (h := ?_))
      | ((with_reducible refine oGi ?_); refine oF' (h := ?_))
      | ((with_reducible refine oGi ?_); refine oI (fun hb hc => ?_) (fun hb hc => ?_))
      | with_reducible refine simO_let ?_
      | refine simO_nil ?_
      | refine oV (h := ?_)
      | refine oVg (h := ?_)
      | refine oKg (h := ?_)
      | refine oKu (h := ?_)
      | refine oS (h := ?_)
      | refine oN (h := ?_)
      | refine oNg (h := ?_)
      | refine oA (h := ?_)
      | fail)
    | fail

set_option maxRecDepth 100000 in
set_option maxHeartbeats 8000000 in
theorem bits_Div32.holds (a0 : Int) (a1 : Int) (a2 : Int) (r : Int × Int) (h : bits_Div32.f a0 a1 a2 = some r) : Holds Tryd.prog G0 107 [] [.int .u32 a0, .int .u32 a1, .int .u32 a2] (.tup [.int .u32 r.1, .int .u32 r.2]) [] := by
  refine holds_of_sim (fun (r : Int × Int) => (.tup [.int .u32 r.1, .int .u32 r.2], [])) h Tryd.func107 rfl (by kernel_rfl) 33 rfl (by simp) (by simp) [(0, .int .u32 a0), (1, .int .u32 a1), (2, .int .u32 a2)] rfl [] rfl [.tmp 6, .tmp 7] rfl ?_
  clear h
  unfold bits_Div32.f
  refine sim_mk ?_
  repeat' first
    | ((with_reducible refine gS ?_); first
      | with_reducible refine sim_seq ?_
      | with_reducible refine sim_block ?_
      | with_reducible refine sim_skip ?_
      | with_reducible refine sim_inBlock ?_
      | with_reducible exact sim_none
      | refine sR (h := ?_)
      | refine sX (h := ?_)
      | refine sD (hm := by exact mixed) (h := ?_)
      | ((with_reducible refine sGb ?_); refine sTe (h := ?_))
      | ((with_reducible refine sGb ?_); refine sFd (h := ?_))
      | ((with_reducible refine sGb ?_); refine sTb (h := ?_))
      | ((with_reducible refine sGb ?_); refine sFb (h := ?_))
      | with_reducible refine sIn (fun hb => ?_) (fun hb => ?_)
      | ((with_reducible refine sGb ?_); refine sIb (fun hb => ?_) (fun hb => ?_))
      | with_reducible refine sIw (fun r1 r2 r3 r4 => ?_)
      | with_reducible refine sIz (fun r1 r2 r3 r4 => ?_)
      | ((with_reducible refine sGi ?_); refine sT (h := ?_))
      | ((with_reducible refine sGi ?_); refine sF' (h := ?_))
      | ((with_reducible refine sGi ?_); refine sI (fun hb hc => ?_) (fun hb hc => ?_))
      | with_reducible refine sim_let ?_
      | refine sY (h := ?_)
      | refine sN (h := ?_)
      | refine sF [] false
      | refine sFe [] false
      | fail)
    | ((with_reducible refine gO ?_); first
      | with_reducible exact simO_none
      | ((with_reducible refine oGb ?_); refine oTe (h := ?_))
      | ((with_reducible refine oGb ?_); refine oFd (h := ?_))
      | ((with_reducible refine oGb ?_); refine oTb (h := ?_))
      | ((with_reducible refine oGb ?_); refine oFb (h := ?_))
      | with_reducible refine oIn (fun hb => ?_) (fun hb => ?_)
      | ((with_reducible refine oGb ?_); refine oIb (fun hb => ?_) (fun hb => ?_))
      | with_reducible refine oIw (fun r1 r2 r3 r4 => ?_)
      | with_reducible refine oIz (fun r1 r2 r3 r4 => ?_)
      | ((with_reducible refine oGi ?_); refine oT (h := ?_))
      | ((with_reducible refine oGi ?_); refine oF' (h := ?_))
      | ((with_reducible refine oGi ?_); refine oI (fun hb hc => ?_) (fun hb hc => ?_))
      | with_reducible refine simO_let ?_
      | refine simO_nil ?_
      | refine oV (h := ?_)
      | refine oVg (h := ?_)
      | refine oKg (h := ?_)
      | refine oKu (h := ?_)
      | refine oS (h := ?_)
      | refine oN (h := ?_)
      | refine oNg (h := ?_)
      | refine oA (h := ?_)
      | fail)
    | fail

theorem slices_Reverse_byte_byte.len_l : ∀ (k : Nat) (x0 : List Int) (x2 x3 : Int) (r : List Int), slices_Reverse_byte_byte.l0 k x0 x2 x3 = some r → r.length = x0.length
  | 0, _, _, _, _, h => by simp [slices_Reverse_byte_byte.l0] at h
  | k + 1, x0, x2, x3, r, h => by
    have ih := slices_Reverse_byte_byte.len_l k
    simp only [slices_Reverse_byte_byte.l0] at h
    repeat' split at h
    all_goals first | (cases h; done) | (injection h with h; subst h; rfl) | (have := ih _ _ _ _ h; simpa using this)
theorem slices_Reverse_byte_byte.len (k : Nat) (l0 r : List Int) (h : slices_Reverse_byte_byte.f k l0 = some r) : r.length = l0.length := slices_Reverse_byte_byte.len_l k l0 _ _ r h
set_option maxRecDepth 100000 in
set_option maxHeartbeats 8000000 in
theorem slices_Reverse_byte_byte.holds (k : Nat) (l0 : List Int) (r : List Int) (h : slices_Reverse_byte_byte.f k l0 = some r) : Holds Tryd.prog G0 92 [⟨5, 1, (.int .u8 0), l0.map (AV.int .u8)⟩] [.own 0 0 l0.length] (.tup []) [⟨5, 1, (.int .u8 0), r.map (AV.int .u8)⟩] := by
  refine holds_of_sim (fun (r : List Int) => (.tup [], [⟨5, 1, (.int .u8 0), r.map (AV.int .u8)⟩])) h Tryd.func92 rfl (by kernel_rfl) 28 rfl (by simp) (by simp) [(0, .own 0 0 l0.length)] rfl [0] rfl [] rfl ?_
  clear h
  unfold slices_Reverse_byte_byte.f
  refine sim_mk ?_
  repeat' first
    | ((with_reducible refine gS ?_); first
      | with_reducible refine sim_seq ?_
      | with_reducible refine sim_block ?_
      | with_reducible refine sim_skip ?_
      | with_reducible refine sim_inBlock ?_
      | with_reducible exact sim_none
      | refine sR (h := ?_)
      | refine sX (h := ?_)
      | refine sD (hm := by exact mixed) (h := ?_)
      | ((with_reducible refine sGb ?_); refine sTe (h := ?_))
      | ((with_reducible refine sGb ?_); refine sFd (h := ?_))
      | ((with_reducible refine sGb ?_); refine sTb (h := ?_))
      | ((with_reducible refine sGb ?_); refine sFb (h := ?_))
      | with_reducible refine sIn (fun hb => ?_) (fun hb => ?_)
      | ((with_reducible refine sGb ?_); refine sIb (fun hb => ?_) (fun hb => ?_))
      | with_reducible refine sIw (fun r1 r2 r3 r4 => ?_)
      | with_reducible refine sIz (fun r1 r2 r3 r4 => ?_)
      | ((with_reducible refine sGi ?_); refine sT (h := ?_))
      | ((with_reducible refine sGi ?_); refine sF' (h := ?_))
      | ((with_reducible refine sGi ?_); refine sI (fun hb hc => ?_) (fun hb hc => ?_))
      | with_reducible refine sim_let ?_
      | refine sY (h := ?_)
      | refine sN (h := ?_)
      | refine IHl0.out _ ⟨(_, _, _), by simp only [List.length_set, List.length_map]; exact hx.out⟩ _ (by omega) ?_
      | (refine sim_loop (fun k (x : {x : List Int × Int × Int // x.1.length = l0.length}) => slices_Reverse_byte_byte.l0 k x.1.1 x.1.2.1 x.1.2.2) (fun x => mkS [(0, .own 0 0 x.1.1.length), (2, .int .i64 x.1.2.1), (3, .int .i64 x.1.2.2)] ([0] ++ []) [⟨5, 1, (.int .u8 0), x.1.1.map (AV.int .u8)⟩]) _ (fun _ => rfl) (fun k hkl0 IH x => ?_) (⟨(_, _, _), rfl⟩) ?_; obtain ⟨⟨x0, x2, x3⟩, hx0⟩ := x; have hx : Kp (x0.length = l0.length) := ⟨hx0⟩; simp only [slices_Reverse_byte_byte.l0]; have IHl0 := Hid.mk IH; clear IH; clear hx0; refine sim_mk ?_)
      | refine sF [0] false (hlen := by have h := hx.out; simp [h])
      | refine sFe [0] false (hlen := by have h := hx.out; simp [h])
      | refine sF [0] false
      | refine sFe [0] false
      | fail)
    | ((with_reducible refine gO ?_); first
      | with_reducible exact simO_none
      | ((with_reducible refine oGb ?_); refine oTe (h := ?_))
      | ((with_reducible refine oGb ?_); refine oFd (h := ?_))
      | ((with_reducible refine oGb ?_); refine oTb (h := ?_))
      | ((with_reducible refine oGb ?_); refine oFb (h := ?_))
      | with_reducible refine oIn (fun hb => ?_) (fun hb => ?_)
      | ((with_reducible refine oGb ?_); refine oIb (fun hb => ?_) (fun hb => ?_))
      | with_reducible refine oIw (fun r1 r2 r3 r4 => ?_)
      | with_reducible refine oIz (fun r1 r2 r3 r4 => ?_)
      | ((with_reducible refine oGi ?_); refine oT (h := ?_))
      | ((with_reducible refine oGi ?_); refine oF' (h := ?_))
      | ((with_reducible refine oGi ?_); refine oI (fun hb hc => ?_) (fun hb hc => ?_))
      | with_reducible refine simO_let ?_
      | refine simO_nil ?_
      | refine oV (h := ?_)
      | refine oVg (h := ?_)
      | refine oKg (h := ?_)
      | refine oKu (h := ?_)
      | refine oS (h := ?_)
      | refine oN (h := ?_)
      | refine oNg (h := ?_)
      | refine oA (h := ?_)
      | fail)
    | ((with_reducible refine gL ?_); first
      | refine lC [0] [] []
      | refine lNilF 0 1 (.int .u8 0) (h := ?_)
      | fail)
    | fail

end Go.Proofs.YtnilfndadahgaaaDoor.P

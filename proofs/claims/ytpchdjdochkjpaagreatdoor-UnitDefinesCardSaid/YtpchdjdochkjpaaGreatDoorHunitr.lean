/- Contracts: each Go function of a package comes to its plain function. -/
import Derived.Test.YtpchdjdochkjpaaGreatDoorMc
import Derived.Test.YtpchdjdochkjpaaGreatDoorMx
import Derived.Test.YtpchdjdochkjpaaGreatDoorHunitt
import Derived.Test.YtpchdjdochkjpaaGreatDoorHrat
import Derived.Test.YtpchdjdochkjpaaGreatDoorHunitp
import Derived.Test.YtpchdjdochkjpaaGreatDoorHunit
set_option linter.unusedVariables false
set_option linter.unusedSimpArgs false
set_option maxRecDepth 100000
set_option maxHeartbeats 8000000
namespace Go.Proofs.YtpchdjdochkjpaaGreatDoor.P
open Go Go.RowKit Go.Proofs.YtpchdjdochkjpaaGreatDoor.Am Go.Proofs.YtpchdjdochkjpaaGreatDoorW.PrintWords Go.Proofs.YtpchdjdochkjpaaGreatDoorW.PrintMore
attribute [local irreducible] cpy rd bt strOfNums ByteArray.extract
theorem unit_Table_Parse.holds (k : Nat) (tb : Nat) (T : Option Tab) (s : ByteArray) (r : Tab × Un × Int × Int) (h : unit_Table_Parse.f k T s = some r) : HoldsX Tryz.prog (G0 0) 19 [] [.raw (.pointer (some ⟨tb, 0, none⟩)), .str s] [] (tbR tb T) (.tup [avU r.2.1, .agg [.int .i64 r.2.2.1, .int .i64 r.2.2.2]]) [] (fun y => y = tbR tb (some r.1)) := by
 refine holdsX_of_sim (fun (r : Tab × Un × Int × Int) => ⟨.tup [avU r.2.1, .agg [.int .i64 r.2.2.1, .int .i64 r.2.2.2]], [], fun y => y = tbR tb (some r.1)⟩) h Tryz.func19 rfl (by kernel_rfl) 76 rfl (by simp) (by simp) [] (tbR tb T) [(0, .raw (.pointer (some ⟨tb, 0, none⟩))), (1, .str s)] rfl [] rfl [.cell 4 37, .cell 5 56] rfl ?_
 clear h
 unfold unit_Table_Parse.f
 refine sim_mk ?_
 repeat' first
  | ((with_reducible refine gS ?_); first
   | with_reducible refine sim_seq ?_
   | with_reducible refine sim_block ?_
   | with_reducible refine sim_skip ?_
   | with_reducible refine sim_inBlock ?_
   | with_reducible exact sim_none
   | refine sDv [6, 67, 68, 69] 4 1006 1004 (id := 15) (hm := by exact mixed) (hi := by intro a ha; simp only [List.mem_cons, List.not_mem_nil, or_false] at ha; rcases ha with rfl | rfl | rfl | rfl <;> first | exact .inl rfl | exact .inr ⟨_, _, rfl⟩) (hb := ⟨_, _, rfl⟩) (h := ?_)
   | refine sR (h := ?_)
   | refine sX (h := ?_)
   | refine sD (hm := by exact mixed) (h := ?_)
   | refine sDl (hm := by exact mixed) (h := ?_)
   | ((with_reducible refine sGb ?_); first | refine sTe (h := ?_) | refine sFd (h := ?_) | refine sTb (h := ?_) | refine sFb (h := ?_))
   | with_reducible refine sIn (fun hb => ?_) (fun hb => ?_)
   | with_reducible refine sBd (fun hb hc => ?_) (fun hb hc => ?_) (fun hb hc => ?_) (fun hb hc => ?_)
   | ((with_reducible refine sGb ?_); refine sIb (fun hb => ?_) (fun hb => ?_))
   | ((with_reducible refine sGi ?_); first | refine sT (h := ?_) | refine sF' (h := ?_) | refine sI (fun hb hc => ?_) (fun hb hc => ?_))
   | with_reducible refine sim_let ?_
   | refine sY (h := ?_)
   | refine sN (h := ?_)
   | with_reducible refine sEq (unit_Table_Parse.e.eq_1 _ _ _ _) ?_
   | with_reducible refine sEq (unit_Table_Parse.d.eq_1 _ _) ?_
   | refine IHl0.out _ (_, _) _ (by omega) ?_
   | (refine sim_loop (fun k (x : Tab × Rd) => match x with | (l, y) => unit_Table_Parse.l0 k s l y) (fun x => match x with | (l, y) => mkS [(4, .optr 1004 0 0), (5, .optr 1005 0 0), (6, .optr 1006 0 0)] [1004, 1005, 1006] [⟨37, 10, (.agg [(.bool false), .nil, .nil, (.int .i64 0), (.int .i64 0), (.int .i64 0), (.int .i64 0), (.int .i64 0), (.int .i64 0), (.int .i64 0)]), [(.agg [(.bool false), .nil, .nil, (.int .i64 0), (.int .i64 0), (.int .i64 0), (.int .i64 0), (.int .i64 0), (.int .i64 0), (.int .i64 0)])]⟩, ⟨56, 2, (.agg [(.int .i64 0), (.int .i64 0)]), [(.agg [(.int .i64 0), (.int .i64 0)])]⟩, rdR (.pointer (some ⟨tb, 0, none⟩)) s y] (tbR tb (some l))) _ (fun ⟨_, _⟩ => rfl) (fun k hkl0 IH x => ?_) ((_, _)) ?_; obtain ⟨l, y⟩ := x; simp only [unit_Table_Parse.l0]; have IHl0 := Hid.mk IH; clear IH; refine sim_mk ?_)
   | refine sF [] false
   | refine sFe [] false
   | fail)
  | ((with_reducible refine gO ?_); first
   | with_reducible exact simB_none
   | ((with_reducible refine oGb ?_); first | refine oTe (h := ?_) | refine oFd (h := ?_) | refine oTb (h := ?_) | refine oFb (h := ?_))
   | with_reducible refine oIn (fun hb => ?_) (fun hb => ?_)
   | with_reducible refine oBd (fun hb hc => ?_) (fun hb hc => ?_) (fun hb hc => ?_) (fun hb hc => ?_)
   | ((with_reducible refine oGb ?_); refine oIb (fun hb => ?_) (fun hb => ?_))
   | ((with_reducible refine oGi ?_); first | refine oT (h := ?_) | refine oF' (h := ?_) | refine oI (fun hb hc => ?_) (fun hb hc => ?_))
   | with_reducible refine simB_let ?_
   | refine oNil (h := ?_)
   | refine oLast (h := ?_)
   | with_reducible refine oEq (unit_Table_Parse.d.eq_1 _ _) ?_
   | with_reducible refine oEq (unit_Table_Parse.e.eq_1 _ _ _ _) ?_
   | ((with_reducible refine gC ?_); first
    | refine oC false (hh := fun t ht => rat_Whole.holds _ _ t ht) (h := fun t => ?_)
    | refine oX [] (hh := fun t ht => unit_Table_all.holds _ tb _ t ht) (h := fun t => ?_)
    | refine oC true (hh := fun t ht => unit_Table_all_nil.holds t ht) (h := fun t => ?_)
    | refine oX [0] (hh := fun t ht => unit_reader_piece.holds _ tb _ _ _ _ t ht) (h := fun t => ?_)
    | refine oW [0] false (hh := fun t ht => unit_reader_sign.holds _ (.pointer (some ⟨tb, 0, none⟩)) _ _ _ t ht) (h := fun t => ?_)
    | refine oW [0] false (hh := fun t ht => unit_reader_skip.holds _ (.pointer (some ⟨tb, 0, none⟩)) _ _ t ht) (h := fun t => ?_)
    | refine oW [0] false (hh := fun t ht => unit_reader_fails.holds (.pointer (some ⟨tb, 0, none⟩)) s _ _ _ t ht) (h := fun t => ?_)
    | fail)
   | refine oV (h := ?_)
   | refine oS (h := ?_)
   | refine oN (h := ?_)
   | refine oA (h := ?_)
   | fail)
  | ((with_reducible refine gL ?_); first
   | refine lC [] [4, 5, 6] [1004, 1005, 1006]
   | fail)
  | fail

theorem unit_Table_Parse_nil.holds (s : ByteArray) (r : Un × Int × Int) (h : unit_Table_Parse_nil.f s = some r) : Holds Tryz.prog (G0 0) 19 [] [.raw (.pointer none), .str s] (.tup [avU r.1, .agg [.int .i64 r.2.1, .int .i64 r.2.2]]) [] := by
 refine holds_of_sim (fun (r : Un × Int × Int) => ⟨.tup [avU r.1, .agg [.int .i64 r.2.1, .int .i64 r.2.2]], [], fun _ => True⟩) h Tryz.func19 rfl (by kernel_rfl) 76 rfl (by simp) (by simp) [(0, .raw (.pointer none)), (1, .str s)] rfl [] rfl [.cell 4 37, .cell 5 56] rfl ?_
 clear h
 unfold unit_Table_Parse_nil.f
 refine sim_mk ?_
 repeat' first
  | ((with_reducible refine gS ?_); first
   | with_reducible refine sim_seq ?_
   | with_reducible refine sim_block ?_
   | with_reducible refine sim_skip ?_
   | with_reducible refine sim_inBlock ?_
   | with_reducible exact sim_none
   | refine sR (h := ?_)
   | refine sX (h := ?_)
   | refine sD (hm := by exact mixed) (h := ?_)
   | refine sDl (hm := by exact mixed) (h := ?_)
   | ((with_reducible refine sGb ?_); first | refine sTe (h := ?_) | refine sFd (h := ?_) | refine sTb (h := ?_) | refine sFb (h := ?_))
   | with_reducible refine sIn (fun hb => ?_) (fun hb => ?_)
   | with_reducible refine sBd (fun hb hc => ?_) (fun hb hc => ?_) (fun hb hc => ?_) (fun hb hc => ?_)
   | ((with_reducible refine sGb ?_); refine sIb (fun hb => ?_) (fun hb => ?_))
   | ((with_reducible refine sGi ?_); first | refine sT (h := ?_) | refine sF' (h := ?_) | refine sI (fun hb hc => ?_) (fun hb hc => ?_))
   | with_reducible refine sim_let ?_
   | refine sY (h := ?_)
   | refine sN (h := ?_)
   | refine sF [] false
   | refine sFe [] false
   | fail)
  | ((with_reducible refine gO ?_); first
   | with_reducible exact simB_none
   | ((with_reducible refine oGb ?_); first | refine oTe (h := ?_) | refine oFd (h := ?_) | refine oTb (h := ?_) | refine oFb (h := ?_))
   | with_reducible refine oIn (fun hb => ?_) (fun hb => ?_)
   | with_reducible refine oBd (fun hb hc => ?_) (fun hb hc => ?_) (fun hb hc => ?_) (fun hb hc => ?_)
   | ((with_reducible refine oGb ?_); refine oIb (fun hb => ?_) (fun hb => ?_))
   | ((with_reducible refine oGi ?_); first | refine oT (h := ?_) | refine oF' (h := ?_) | refine oI (fun hb hc => ?_) (fun hb hc => ?_))
   | with_reducible refine simB_let ?_
   | refine oNil (h := ?_)
   | refine oLast (h := ?_)
   | ((with_reducible refine gC ?_); first
    | refine oC false (hh := fun t ht => rat_Whole.holds _ _ t ht) (h := fun t => ?_)
    | refine oX [] (hh := fun t ht => unit_Table_all.holds _ _ _ t ht) (h := fun t => ?_)
    | refine oC true (hh := fun t ht => unit_Table_all_nil.holds t ht) (h := fun t => ?_)
    | refine oX [0] (hh := fun t ht => unit_reader_piece.holds _ _ _ _ _ _ t ht) (h := fun t => ?_)
    | refine oW [0] false (hh := fun t ht => unit_reader_sign.holds _ _ _ _ _ t ht) (h := fun t => ?_)
    | refine oW [0] false (hh := fun t ht => unit_reader_skip.holds _ _ _ _ t ht) (h := fun t => ?_)
    | refine oW [0] false (hh := fun t ht => unit_reader_fails.holds _ s _ _ _ t ht) (h := fun t => ?_)
    | fail)
   | refine oV (h := ?_)
   | refine oS (h := ?_)
   | refine oN (h := ?_)
   | refine oA (h := ?_)
   | fail)
  | fail

end Go.Proofs.YtpchdjdochkjpaaGreatDoor.P

/- Contracts: each Go function of a package comes to its plain function. -/
import Derived.Test.YtpchdjdochkjpaaGreatDoorMc
import Derived.Test.YtpchdjdochkjpaaGreatDoorMx
import Derived.Test.YtpchdjdochkjpaaGreatDoorHunit
import Derived.Test.YtpchdjdochkjpaaGreatDoorHrat
set_option linter.unusedVariables false
set_option linter.unusedSimpArgs false
set_option maxRecDepth 100000
set_option maxHeartbeats 8000000
namespace Go.Proofs.YtpchdjdochkjpaaGreatDoor.P
open Go Go.RowKit Go.Proofs.YtpchdjdochkjpaaGreatDoor.Am Go.Proofs.YtpchdjdochkjpaaGreatDoorW.PrintWords Go.Proofs.YtpchdjdochkjpaaGreatDoorW.PrintMore
attribute [local irreducible] cpy rd bt strOfNums ByteArray.extract
theorem unit_Table_add.holds (tb mb : Nat) (st : Int) (l : Tab) (n : ByteArray) (u : Un) (r : Tab) (h : unit_Table_add.f l n u = some r) : HoldsX Tryz.prog (G0 0) 105 [] [.raw (.pointer (some ⟨tb, 0, none⟩)), .str n, avU u] [] (tbG tb mb 0 st (.map (some mb)) l) (.tup []) [] (fun y => y = tbG tb mb 0 st (.map (some mb)) r) := by
 refine holdsX_of_sim (fun (r : Tab) => ⟨.tup [], [], fun y => y = tbG tb mb 0 st (.map (some mb)) r⟩) h Tryz.func105 rfl (by kernel_rfl) 25 rfl (by simp) (by simp) [] (tbG tb mb 0 st (.map (some mb)) l) [(0, .raw (.pointer (some ⟨tb, 0, none⟩))), (1, .str n), (2, avU u)] rfl [] rfl [] rfl ?_
 clear h
 unfold unit_Table_add.f
 refine sim_mk ?_
 repeat' first
  | ((with_reducible refine gS ?_); first
  | with_reducible refine sim_seq ?_
  | with_reducible refine sim_skip ?_
  | refine sDl (id := 3) (hm := by exact mixed) (h := ?_)
  | refine sR (h := ?_)
  | refine sY (h := ?_)
  | refine sN (h := ?_)
  | refine sFe [] false
  | fail)
  | ((with_reducible refine gO ?_); first
  | refine oNil (h := ?_)
  | refine oLast (h := ?_)
  | refine oLk 9 37 (h1 := fun u => ?_) (h2 := ?_)
  | refine oMu 9 37 (h := ?_)
  | refine oV (h := ?_)
  | refine oS (h := ?_)
  | refine oN (h := ?_)
  | fail)
  | fail

theorem unit_Table_fill.holds (k : Nat) (tb : Nat) (r : Tab) (h : unit_Table_fill.f k = some r) : HoldsX Tryz.prog (G0 0) 72 [] [.raw (.pointer (some ⟨tb, 0, none⟩))] [] (tbN tb 0 1) (.tup []) [] (fun y => ∃ mb, y = tbG tb mb 0 1 (.map (some mb)) r) := by
 refine holdsX_of_sim (fun (r : Tab) => ⟨.tup [], [], fun y => ∃ mb, y = tbG tb mb 0 1 (.map (some mb)) r⟩) h Tryz.func72 rfl (by kernel_rfl) 62 rfl (by simp) (by simp) [] (tbN tb 0 1) [(0, .raw (.pointer (some ⟨tb, 0, none⟩)))] rfl [] rfl [] rfl ?_
 clear h
 unfold unit_Table_fill.f
 refine sim_mk ?_
 repeat' first
  | ((with_reducible refine gS ?_); first
  | with_reducible refine sim_seq ?_
  | with_reducible refine sim_block ?_
  | with_reducible refine sim_skip ?_
  | with_reducible refine sim_inBlock ?_
  | refine sR (h := ?_)
  | refine sX (h := ?_)
  | refine sD (hm := by exact mixed) (h := ?_)
  | refine sY (h := ?_)
  | refine sN (h := ?_)
  | refine IHl0.out _ (_, _) _ (by omega) ?_
  | refine IHl1.out _ (_, _) _ (by omega) ?_
  | refine IHl2.out _ (_, _, _, _) _ (by omega) ?_
  | (refine sim_loop (fun k (x : Tab × Int) => match x with | (l, i) => unit_Table_fill.l0 k l i) (fun x => match x with | (l, i) => mkS [(0, .raw (.pointer (some ⟨tb, 0, none⟩))), (14, .agg rowsT), (15, .int .i64 i)] [] [] (tbG tb mb 0 1 (.map (some mb)) l)) _ (fun ⟨_, _⟩ => rfl) (fun k hkl0 IH x => ?_) ((_, _)) ?_; obtain ⟨l, i⟩ := x; simp only [unit_Table_fill.l0]; have IHl0 := Hid.mk IH; clear IH; refine sim_mk ?_)
  | (refine sim_loop (fun k (x : Tab × Int) => match x with | (l, j) => unit_Table_fill.l1 k l j) (fun x => match x with | (l, j) => mkS [(0, .raw (.pointer (some ⟨tb, 0, none⟩))), (29, .agg pfxT), (30, .int .i64 j)] [] [] (tbG tb mb 0 1 (.map (some mb)) l)) _ (fun ⟨_, _⟩ => rfl) (fun k hkl1 IH x => ?_) ((_, _)) ?_; obtain ⟨l, j⟩ := x; simp only [unit_Table_fill.l1]; have IHl1 := Hid.mk IH; clear IH; refine sim_mk ?_)
  | (refine sim_loop (fun k (x : Tab × Int × Pf × Int) => match x with | (l, j, p, i) => unit_Table_fill.l2 k l j p i) (fun x => match x with | (l, j, p, i) => mkS [(0, .raw (.pointer (some ⟨tb, 0, none⟩))), (29, .agg pfxT), (30, .int .i64 j), (5, .optr 1005 0 0), (33, .agg rowsT), (34, .int .i64 i)] [1005] [⟨155, 2, (.agg [(.str ⟨#[]⟩), (.int .i64 0)]), [.agg [.str p.n, .int .i64 p.v]]⟩] (tbG tb mb 0 1 (.map (some mb)) l)) _ (fun ⟨_, _, _, _⟩ => rfl) (fun k hkl2 IH x => ?_) ((_, _, _, _)) ?_; obtain ⟨l, j, p, i⟩ := x; simp only [unit_Table_fill.l2]; have IHl2 := Hid.mk IH; clear IH; refine sim_mk ?_)
  | refine sFe [] false
  | fail)
  | ((with_reducible refine gO ?_); first
  | with_reducible exact simB_none
  | ((with_reducible refine oGb ?_); refine oIb (fun hb => ?_) (fun hb => ?_))
  | ((with_reducible refine oGi ?_); first | refine oT (h := ?_) | refine oF' (h := ?_) | refine oI (fun hb hc => ?_) (fun hb hc => ?_))
  | refine oNil (h := ?_)
  | refine oRw (h := fun r => ?_)
  | refine oPf (h := fun p => ?_)
  | refine oMm (h := fun mb => ?_)
  | refine oSm (h := ?_)
  | ((with_reducible refine gC ?_); first
   | refine oC false (hh := fun t ht => rat_Mul.holds _ _ _ _ _ _ _ t ht) (h := fun t => ?_)
   | refine oX [] (hh := fun t ht => unit_Table_add.holds tb mb 1 _ _ _ t ht) (h := fun t => ?_)
   | refine oC false (hh := fun t ht => unit_number.holds _ _ t ht) (h := fun t => ?_)
   | fail)
  | refine oV (h := ?_)
  | refine oS (h := ?_)
  | refine oN (h := ?_)
  | fail)
  | ((with_reducible refine gL ?_); first
  | refine lC [] [] []
  | refine lC [] [] []
  | refine lC [] [5] [1005]
  | fail)
  | fail

theorem unit_Table_all.holds (k : Nat) (tb : Nat) (T : Option Tab) (r : Tab) (h : unit_Table_all.f k T = some r) : HoldsX Tryz.prog (G0 0) 39 [] [.raw (.pointer (some ⟨tb, 0, none⟩))] [] (tbR tb T) (.bool true) [] (fun y => y = tbR tb (some r)) := by
 unfold unit_Table_all.f at h
 cases T with
 | none => exact all_first tb r (unit_Table_fill.holds k tb r h)
 | some l => obtain rfl := Option.some.inj h; exact all_again tb l

theorem unit_Table_all_nil.holds  (r : Bool) (h : unit_Table_all_nil.f = some r) : Holds Tryz.prog (G0 0) 39 [] [.raw (.pointer none)] (.bool r) [] := by
 refine holds_of_sim (fun (r : Bool) => ⟨.bool r, [], fun _ => True⟩) h Tryz.func39 rfl (by kernel_rfl) 11 rfl (by simp) (by simp) [(0, .raw (.pointer none))] rfl [] rfl [.tmp 2] rfl ?_
 clear h
 unfold unit_Table_all_nil.f
 refine sim_mk ?_
 repeat' first
  | ((with_reducible refine gS ?_); first
  | with_reducible refine sim_seq ?_
  | refine sR (h := ?_)
  | refine sY (h := ?_)
  | refine sF [] false
  | fail)
  | ((with_reducible refine gO ?_); first
  | refine oNil (h := ?_)
  | refine oV (h := ?_)
  | fail)
  | fail

theorem unit_Table_Of.holds (k : Nat) (tb : Nat) (T : Option Tab) (n : ByteArray) (r : Tab × Un × Bool) (h : unit_Table_Of.f k T n = some r) : HoldsX Tryz.prog (G0 0) 15 [] [.raw (.pointer (some ⟨tb, 0, none⟩)), .str n] [] (tbR tb T) (.tup [avU r.2.1, .bool r.2.2]) [] (fun y => y = tbR tb (some r.1)) := by
 refine holdsX_of_sim (fun (r : Tab × Un × Bool) => ⟨.tup [avU r.2.1, .bool r.2.2], [], fun y => y = tbR tb (some r.1)⟩) h Tryz.func15 rfl (by kernel_rfl) 26 rfl (by simp) (by simp) [] (tbR tb T) [(0, .raw (.pointer (some ⟨tb, 0, none⟩))), (1, .str n)] rfl [] rfl [.cell 4 37, .tmp 5] rfl ?_
 clear h
 unfold unit_Table_Of.f
 refine sim_mk ?_
 repeat' first
  | ((with_reducible refine gS ?_); first
  | with_reducible refine sim_seq ?_
  | with_reducible refine sim_skip ?_
  | refine sOp 3 (h := fun mb => ?_)
  | refine sCl (h := ?_)
  | refine sR (h := ?_)
  | refine sY (h := ?_)
  | refine sN (h := ?_)
  | refine sF [] false
  | fail)
  | ((with_reducible refine gO ?_); first
  | refine oNil (h := ?_)
  | refine oLk 9 37 (h1 := fun u => ?_) (h2 := ?_)
  | ((with_reducible refine gC ?_); first
   | refine oX [] (hh := fun t ht => unit_Table_all.holds _ tb _ t ht) (h := fun t => ?_)
   | refine oC false (hh := fun t ht => unit_copied.holds _ _ _ _ _ _ _ _ _ _ _ t ht) (h := fun t => ?_)
   | fail)
  | refine oV (h := ?_)
  | refine oS (h := ?_)
  | refine oN (h := ?_)
  | fail)
  | fail

theorem unit_Table_Has.holds (k : Nat) (tb : Nat) (T : Option Tab) (n : ByteArray) (r : Tab × Bool) (h : unit_Table_Has.f k T n = some r) : HoldsX Tryz.prog (G0 0) 17 [] [.raw (.pointer (some ⟨tb, 0, none⟩)), .str n] [] (tbR tb T) (.bool r.2) [] (fun y => y = tbR tb (some r.1)) := by
 refine holdsX_of_sim (fun (r : Tab × Bool) => ⟨.bool r.2, [], fun y => y = tbR tb (some r.1)⟩) h Tryz.func17 rfl (by kernel_rfl) 14 rfl (by simp) (by simp) [] (tbR tb T) [(0, .raw (.pointer (some ⟨tb, 0, none⟩))), (1, .str n)] rfl [] rfl [.tmp 4] rfl ?_
 clear h
 unfold unit_Table_Has.f
 refine sim_mk ?_
 repeat' first
  | ((with_reducible refine gS ?_); first
  | with_reducible refine sim_seq ?_
  | refine sR (h := ?_)
  | refine sF [] false
  | fail)
  | ((with_reducible refine gO ?_); first
  | refine oNil (h := ?_)
  | ((with_reducible refine gC ?_); first
   | refine oX [] (hh := fun t ht => unit_Table_Of.holds _ tb _ _ t ht) (h := fun t => ?_)
   | fail)
  | refine oV (h := ?_)
  | refine oS (h := ?_)
  | refine oN (h := ?_)
  | fail)
  | fail

theorem unit_Table_Define.holds (k : Nat) (tb : Nat) (T : Option Tab) (n : ByteArray) (u : Un) (r : Tab × Int) (h : unit_Table_Define.f k T n u = some r) : HoldsX Tryz.prog (G0 0) 13 [] [.raw (.pointer (some ⟨tb, 0, none⟩)), .str n, avU u] [] (tbR tb T) (.int .i64 r.2) [] (fun y => y = tbR tb (some r.1)) := by
 refine holdsX_of_sim (fun (r : Tab × Int) => ⟨.int .i64 r.2, [], fun y => y = tbR tb (some r.1)⟩) h Tryz.func13 rfl (by kernel_rfl) 38 rfl (by simp) (by simp) [] (tbR tb T) [(0, .raw (.pointer (some ⟨tb, 0, none⟩))), (1, .str n), (2, avU u)] rfl [] rfl [.tmp 6] rfl ?_
 clear h
 unfold unit_Table_Define.f
 refine sim_mk ?_
 repeat' first
  | ((with_reducible refine gS ?_); first
  | with_reducible refine sim_seq ?_
  | with_reducible refine sim_block ?_
  | with_reducible refine sim_skip ?_
  | with_reducible refine sim_inBlock ?_
  | refine sOp 5 (h := fun mb => ?_)
  | refine sDl (id := 5) (hm := by exact mixed) (h := ?_)
  | refine sCl (h := ?_)
  | refine sR (h := ?_)
  | refine sY (h := ?_)
  | refine sN (h := ?_)
  | refine sF [] false
  | fail)
  | ((with_reducible refine gO ?_); first
  | ((with_reducible refine oGb ?_); refine oIb (fun hb => ?_) (fun hb => ?_))
  | ((with_reducible refine oGi ?_); first | refine oT (h := ?_) | refine oF' (h := ?_) | refine oI (fun hb hc => ?_) (fun hb hc => ?_))
  | refine oNil (h := ?_)
  | refine oLast (h := ?_)
  | refine oMu 9 37 (h := ?_)
  | ((with_reducible refine gC ?_); first
   | refine oX [] (hh := fun t ht => unit_Table_Has.holds _ tb _ _ t ht) (h := fun t => ?_)
   | refine oX [] (hh := fun t ht => unit_Table_all.holds _ tb _ t ht) (h := fun t => ?_)
   | refine oCg true (hh := fun t ht => unit_may.holds _ _ t ht) (h := fun t => ?_)
   | refine oCg true (hh := fun t ht => unit_name.holds _ _ t ht) (h := fun t => ?_)
   | refine oC false (hh := fun t ht => unit_copied.holds _ _ _ _ _ _ _ _ _ _ _ t ht) (h := fun t => ?_)
   | fail)
  | refine oV (h := ?_)
  | refine oVg (h := ?_)
  | refine oKg (h := ?_)
  | refine oN (h := ?_)
  | fail)
  | fail

theorem unit_Table_Define_nil.holds (n : ByteArray) (u : Un) (r : Int) (h : unit_Table_Define_nil.f n u = some r) : Holds Tryz.prog (G0 0) 13 [] [.raw (.pointer none), .str n, avU u] (.int .i64 r) [] := by
 refine holds_of_sim (fun (r : Int) => ⟨.int .i64 r, [], fun _ => True⟩) h Tryz.func13 rfl (by kernel_rfl) 38 rfl (by simp) (by simp) [(0, .raw (.pointer none)), (1, .str n), (2, avU u)] rfl [] rfl [.tmp 6] rfl ?_
 clear h
 unfold unit_Table_Define_nil.f
 refine sim_mk ?_
 repeat' first
  | ((with_reducible refine gS ?_); first
  | with_reducible refine sim_seq ?_
  | with_reducible refine sim_block ?_
  | refine sR (h := ?_)
  | refine sY (h := ?_)
  | refine sF [] false
  | fail)
  | ((with_reducible refine gO ?_); first
  | with_reducible exact simB_none
  | ((with_reducible refine oGb ?_); refine oIb (fun hb => ?_) (fun hb => ?_))
  | refine oNil (h := ?_)
  | ((with_reducible refine gC ?_); first
   | refine oC true (hh := fun t ht => unit_Table_all_nil.holds t ht) (h := fun t => ?_)
   | fail)
  | refine oV (h := ?_)
  | refine oKg (h := ?_)
  | refine oN (h := ?_)
  | fail)
  | fail

theorem unit_Table_Names.holds (k : Nat) (tb : Nat) (T : Option Tab) (r : Tab × List ByteArray) (h : unit_Table_Names.f k T = some r) : HoldsX Tryz.prog (G0 0) 22 [] [.raw (.pointer (some ⟨tb, 0, none⟩))] [] (tbR tb T) (.sl 1 (.str ⟨#[]⟩) (r.2.map AV.str)) [] (fun y => y = tbR tb (some r.1)) := by
 unfold unit_Table_Names.f at h
 obtain ⟨l, hl, h⟩ := Option.bind_eq_some_iff.1 h
 split at h
 ·rename_i hc
  simp only [Bool.and_eq_true, decide_eq_true_eq, List.all_eq_true] at hc
  obtain rfl := Option.some.inj h
  exact names_holds tb T l (fun p hp => by have := hc.2 p hp; unfold maxLen; exact this) hc.1 (unit_Table_all.holds k tb T l hl)
 ·cases h

end Go.Proofs.YtpchdjdochkjpaaGreatDoor.P

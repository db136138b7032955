/- Contracts: each Go function of a package comes to its plain function. -/
import Derived.Test.YtpchdjdochkjpaaGreatDoorMc
import Derived.Test.YtpchdjdochkjpaaGreatDoorMx
import Derived.Test.YtpchdjdochkjpaaGreatDoorHunit
import Derived.Test.YtpchdjdochkjpaaGreatDoorHn
import Derived.Test.YtpchdjdochkjpaaGreatDoorHunitt
import Derived.Test.YtpchdjdochkjpaaGreatDoorHunite
import Derived.Test.YtpchdjdochkjpaaGreatDoorHunitm
set_option linter.unusedVariables false
set_option linter.unusedSimpArgs false
set_option maxRecDepth 100000
set_option maxHeartbeats 8000000
namespace Go.Proofs.YtpchdjdochkjpaaGreatDoor.P
open Go Go.RowKit Go.Proofs.YtpchdjdochkjpaaGreatDoor.Am Go.Proofs.YtpchdjdochkjpaaGreatDoorW.PrintWords Go.Proofs.YtpchdjdochkjpaaGreatDoorW.PrintMore
attribute [local irreducible] cpy rd bt strOfNums ByteArray.extract
theorem unit_reader_piece.holds (k : Nat) (tb : Nat) (l : Tab) (s : ByteArray) (x : Rd) (o : Bool) (r : Tab × Rd) (h : unit_reader_piece.f k l s x o = some r) : HoldsX Tryz.prog (G0 0) 43 [rdR (.pointer (some ⟨tb, 0, none⟩)) s x] [.optr 0 0 0, .bool o] [] (tbR tb (some l)) (.tup []) [rdR (.pointer (some ⟨tb, 0, none⟩)) s r.2] (fun y => y = tbR tb (some r.1)) := by
 refine holdsX_of_sim (fun (r : Tab × Rd) => ⟨.tup [], [rdR (.pointer (some ⟨tb, 0, none⟩)) s r.2], fun y => y = tbR tb (some r.1)⟩) h Tryz.func43 rfl (by kernel_rfl) 141 rfl (by simp) (by simp) [] (tbR tb (some l)) [(0, .optr 0 0 0), (1, .bool o)] rfl [0] rfl [] rfl ?_
 clear h
 unfold unit_reader_piece.f
 refine sim_mk ?_
 repeat' first
  | ((with_reducible refine gS ?_); first
   | with_reducible refine sim_seq ?_
   | with_reducible refine sim_block ?_
   | with_reducible refine sim_skip ?_
   | with_reducible refine sim_inBlock ?_
   | with_reducible exact sim_none
   | refine sDw 6 0 109 (id := 13) (hm := by exact mixed) (hi := ⟨_, _, _, _, _, _, rfl, rfl, .inl rfl, by decide⟩) (h := ?_)
   | refine sR (h := ?_)
   | refine sX (h := ?_)
   | refine sD (hm := by exact mixed) (h := ?_)
   | refine sDl (hm := by exact mixed) (h := ?_)
   | ((with_reducible refine sGb ?_); first | refine sTe (h := ?_) | refine sFd (h := ?_) | refine sTb (h := ?_) | refine sFb (h := ?_))
   | with_reducible refine sIn (fun hb => ?_) (fun hb => ?_)
   | with_reducible refine sBd (fun hb hc => ?_) (fun hb hc => ?_) (fun hb hc => ?_) (fun hb hc => ?_)
   | ((with_reducible refine sGb ?_); refine sIb (fun hb => ?_) (fun hb => ?_))
   | ((with_reducible refine sGi ?_); first | refine sT (h := ?_) | refine sF' (h := ?_) | refine sI (fun hb hc => ?_) (fun hb hc => ?_))
   | with_reducible refine sim_let ?_
   | refine sY (h := ?_)
   | refine sN (h := ?_)
   | with_reducible refine sEq (unit_reader_piece.r.eq_1 _ _ _ _ _ _) ?_
   | with_reducible refine sEq (unit_reader_piece.p.eq_1 _ _ _ _ _ _) ?_
   | refine sF [0] false
   | refine sFe [0] false
   | fail)
  | ((with_reducible refine gO ?_); first
   | with_reducible exact simB_none
   | ((with_reducible refine oGb ?_); first | refine oTe (h := ?_) | refine oFd (h := ?_) | refine oTb (h := ?_) | refine oFb (h := ?_))
   | with_reducible refine oIn (fun hb => ?_) (fun hb => ?_)
   | with_reducible refine oBd (fun hb hc => ?_) (fun hb hc => ?_) (fun hb hc => ?_) (fun hb hc => ?_)
   | ((with_reducible refine oGb ?_); refine oIb (fun hb => ?_) (fun hb => ?_))
   | ((with_reducible refine oGi ?_); first | refine oT (h := ?_) | refine oF' (h := ?_) | refine oI (fun hb hc => ?_) (fun hb hc => ?_))
   | with_reducible refine simB_let ?_
   | refine oNil (h := ?_)
   | refine oLast (h := ?_)
   | with_reducible refine oEq (unit_reader_piece.p.eq_1 _ _ _ _ _ _) ?_
   | with_reducible refine oEq (unit_reader_piece.r.eq_1 _ _ _ _ _ _) ?_
   | ((with_reducible refine gC ?_); first
    | refine oX [] (hh := fun t ht => unit_Table_Of.holds _ tb _ _ t ht) (h := fun t => ?_)
    | refine oXg [] (hh := fun t ht => unit_Table_Of.holds _ tb _ _ t ht) (h := fun t => ?_)
    | refine oC true (hh := fun t ht => unit_name.holds _ _ t ht) (h := fun t => ?_)
    | refine oCg true (hh := fun t ht => unit_name.holds _ _ t ht) (h := fun t => ?_)
    | refine oW [0] false (hh := fun t ht => unit_reader_skip.holds _ (.pointer (some ⟨tb, 0, none⟩)) _ _ t ht) (h := fun t => ?_)
    | refine oW [0] false (hh := fun t ht => unit_reader_fails.holds (.pointer (some ⟨tb, 0, none⟩)) s _ _ _ t ht) (h := fun t => ?_)
    | refine oC true (hh := fun t ht => strings_HasPrefix.holds _ _ t ht) (h := fun t => ?_)
    | refine oCg true (hh := fun t ht => strings_HasPrefix.holds _ _ t ht) (h := fun t => ?_)
    | refine oC false (hh := fun t ht => unit_raised.holds _ _ _ t ht) (h := fun t => ?_)
    | refine oCg false (hh := fun t ht => unit_raised.holds _ _ _ t ht) (h := fun t => ?_)
    | refine oW [0] false (hh := fun t ht => unit_reader_exponent.holds _ (.pointer (some ⟨tb, 0, none⟩)) _ _ t ht) (h := fun t => ?_)
    | refine oC false (hh := fun t ht => unit_product.holds _ _ _ _ t ht) (h := fun t => ?_)
    | refine oCg false (hh := fun t ht => unit_product.holds _ _ _ _ t ht) (h := fun t => ?_)
    | fail)
   | refine oV (h := ?_)
   | refine oVg (h := ?_)
   | refine oKg (h := ?_)
   | refine oKu (h := ?_)
   | refine oS (h := ?_)
   | refine oN (h := ?_)
   | refine oNg (h := ?_)
   | refine oA (h := ?_)
   | fail)
  | fail

end Go.Proofs.YtpchdjdochkjpaaGreatDoor.P

/- Contracts: each Go function of a package comes to its plain function. -/
import Derived.Test.YtpchdjdochkjpaaGreatDoorMc
import Derived.Test.YtpchdjdochkjpaaGreatDoorMx
import Derived.Test.YtpchdjdochkjpaaGreatDoorHunit
set_option linter.unusedVariables false
set_option linter.unusedSimpArgs false
set_option maxRecDepth 100000
set_option maxHeartbeats 8000000
namespace Go.Proofs.YtpchdjdochkjpaaGreatDoor.P
open Go Go.RowKit Go.Proofs.YtpchdjdochkjpaaGreatDoor.Am Go.Proofs.YtpchdjdochkjpaaGreatDoorW.PrintWords Go.Proofs.YtpchdjdochkjpaaGreatDoorW.PrintMore
attribute [local irreducible] cpy rd bt strOfNums ByteArray.extract
theorem unit_reader_exponent.holds (k : Nat) (v : Value) (s : ByteArray) (x : Rd) (r : Rd × Int) (h : unit_reader_exponent.f k s x = some r) : Holds Tryz.prog (G0 0) 79 [rdR v s x] [.optr 0 0 0] (.int .i64 r.2) [rdR v s r.1] := by
 refine holds_of_sim (fun (r : Rd × Int) => ⟨.int .i64 r.2, [rdR v s r.1], fun _ => True⟩) h Tryz.func79 rfl (by kernel_rfl) 99 rfl (by simp) (by simp) [(0, .optr 0 0 0)] rfl [0] rfl [.tmp 2] rfl ?_
 clear h
 unfold unit_reader_exponent.f
 refine sim_mk ?_
 repeat' first
  | ((with_reducible refine gS ?_); first
   | with_reducible refine sim_seq ?_
   | with_reducible refine sim_block ?_
   | with_reducible refine sim_skip ?_
   | with_reducible refine sim_inBlock ?_
   | with_reducible exact sim_none
   | refine sR (h := ?_)
   | refine sX (h := ?_)
   | refine sD (hm := by exact mixed) (h := ?_)
   | refine sDl (hm := by exact mixed) (h := ?_)
   | ((with_reducible refine sGb ?_); first | refine sTe (h := ?_) | refine sFd (h := ?_) | refine sTb (h := ?_) | refine sFb (h := ?_))
   | with_reducible refine sIn (fun hb => ?_) (fun hb => ?_)
   | with_reducible refine sBd (fun hb hc => ?_) (fun hb hc => ?_) (fun hb hc => ?_) (fun hb hc => ?_)
   | ((with_reducible refine sGb ?_); refine sIb (fun hb => ?_) (fun hb => ?_))
   | ((with_reducible refine sGi ?_); first | refine sT (h := ?_) | refine sF' (h := ?_) | refine sI (fun hb hc => ?_) (fun hb hc => ?_))
   | with_reducible refine sim_let ?_
   | refine sY (h := ?_)
   | refine sN (h := ?_)
   | with_reducible refine sEq (unit_reader_exponent.e.eq_1 _ _ _ _ _) ?_
   | refine IHl0.out _ (_, _, _, _) _ (by omega) ?_
   | (refine sim_loop (fun k (x : Bool × Rd × Int × Int) => match x with | (n, x, d, c) => unit_reader_exponent.l0 k s n x d c) (fun x => match x with | (n, x, d, c) => mkS [(0, .optr 0 0 0), (3, .bool n), (4, .int .i64 d), (5, .int .i64 c)] [0] [rdR v s x]) _ (fun ⟨_, _, _, _⟩ => rfl) (fun k hkl0 IH x => ?_) ((_, _, _, _)) ?_; obtain ⟨n, x, d, c⟩ := x; simp only [unit_reader_exponent.l0]; have IHl0 := Hid.mk IH; clear IH; refine sim_mk ?_)
   | refine sF [0] false
   | refine sFe [0] false
   | fail)
  | ((with_reducible refine gO ?_); first
   | with_reducible exact simB_none
   | ((with_reducible refine oGb ?_); first | refine oTe (h := ?_) | refine oFd (h := ?_) | refine oTb (h := ?_) | refine oFb (h := ?_))
   | with_reducible refine oIn (fun hb => ?_) (fun hb => ?_)
   | with_reducible refine oBd (fun hb hc => ?_) (fun hb hc => ?_) (fun hb hc => ?_) (fun hb hc => ?_)
   | ((with_reducible refine oGb ?_); refine oIb (fun hb => ?_) (fun hb => ?_))
   | ((with_reducible refine oGi ?_); first | refine oT (h := ?_) | refine oF' (h := ?_) | refine oI (fun hb hc => ?_) (fun hb hc => ?_))
   | with_reducible refine simB_let ?_
   | refine oNil (h := ?_)
   | refine oLast (h := ?_)
   | with_reducible refine oEq (unit_reader_exponent.e.eq_1 _ _ _ _ _) ?_
   | ((with_reducible refine gC ?_); first
    | refine oW [0] false (hh := fun t ht => unit_reader_sign.holds _ v _ _ _ t ht) (h := fun t => ?_)
    | refine oW [0] false (hh := fun t ht => unit_reader_skip.holds _ v _ _ t ht) (h := fun t => ?_)
    | refine oW [0] false (hh := fun t ht => unit_reader_fails.holds v s _ _ _ t ht) (h := fun t => ?_)
    | refine oC true (hh := fun t ht => unit_digit.holds _ t ht) (h := fun t => ?_)
    | refine oCg true (hh := fun t ht => unit_digit.holds _ t ht) (h := fun t => ?_)
    | fail)
   | refine oV (h := ?_)
   | refine oVg (h := ?_)
   | refine oKg (h := ?_)
   | refine oKu (h := ?_)
   | refine oS (h := ?_)
   | refine oN (h := ?_)
   | refine oNg (h := ?_)
   | refine oA (h := ?_)
   | fail)
  | ((with_reducible refine gL ?_); first
   | refine lC [0] [] []
   | fail)
  | fail

end Go.Proofs.YtpchdjdochkjpaaGreatDoor.P

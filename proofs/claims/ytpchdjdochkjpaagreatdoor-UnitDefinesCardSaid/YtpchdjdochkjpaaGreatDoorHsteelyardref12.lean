/- Contracts: each Go function of a package comes to its plain function. -/
import Derived.Test.YtpchdjdochkjpaaGreatDoorMc
import Derived.Test.YtpchdjdochkjpaaGreatDoorMx
import Derived.Test.YtpchdjdochkjpaaGreatDoorHsteelyardref07
import Derived.Test.YtpchdjdochkjpaaGreatDoorHsteelyardref11
set_option linter.unusedVariables false
set_option linter.unusedSimpArgs false
set_option maxRecDepth 100000
set_option maxHeartbeats 8000000
namespace Go.Proofs.YtpchdjdochkjpaaGreatDoor.P
open Go Go.RowKit Go.Proofs.YtpchdjdochkjpaaGreatDoor.Am Go.Proofs.YtpchdjdochkjpaaGreatDoorW.PrintWords Go.Proofs.YtpchdjdochkjpaaGreatDoorW.PrintMore
attribute [local irreducible] cpy rd bt strOfNums ByteArray.extract
theorem steelyardref12_letter.holds (a0 : Int) (r : Bool) (h : steelyardref12_letter.f a0 = some r) : Holds Tryz.prog (G0 0) 48 [] [.int .u8 a0] (.bool r) [] := by
 refine holds_of_sim (fun (r : Bool) => ⟨.bool r, [], fun _ => True⟩) h Tryz.func48 rfl (by kernel_rfl) 17 rfl (by simp) (by simp) [(0, .int .u8 a0)] rfl [] rfl [.tmp 2] rfl ?_
 clear h
 unfold steelyardref12_letter.f
 refine sim_mk ?_
 repeat' first
  | ((with_reducible refine gS ?_); first
   | with_reducible refine sim_seq ?_
   | refine sR (h := ?_)
   | refine sF [] false
   | fail)
  | ((with_reducible refine gO ?_); first
   | ((with_reducible refine oGi ?_); first | refine oT (h := ?_) | refine oF' (h := ?_) | refine oI (fun hb hc => ?_) (fun hb hc => ?_))
   | refine oNil (h := ?_)
   | refine oV (h := ?_)
   | refine oVg (h := ?_)
   | refine oKg (h := ?_)
   | refine oKu (h := ?_)
   | fail)
  | fail

theorem steelyardref12_digit.holds (a0 : Int) (r : Bool) (h : steelyardref12_digit.f a0 = some r) : Holds Tryz.prog (G0 0) 49 [] [.int .u8 a0] (.bool r) [] := by
 refine holds_of_sim (fun (r : Bool) => ⟨.bool r, [], fun _ => True⟩) h Tryz.func49 rfl (by kernel_rfl) 9 rfl (by simp) (by simp) [(0, .int .u8 a0)] rfl [] rfl [.tmp 2] rfl ?_
 clear h
 unfold steelyardref12_digit.f
 refine sim_mk ?_
 repeat' first
  | ((with_reducible refine gS ?_); first
   | with_reducible refine sim_seq ?_
   | refine sR (h := ?_)
   | refine sF [] false
   | fail)
  | ((with_reducible refine gO ?_); first
   | ((with_reducible refine oGi ?_); first | refine oT (h := ?_) | refine oF' (h := ?_) | refine oI (fun hb hc => ?_) (fun hb hc => ?_))
   | refine oNil (h := ?_)
   | refine oV (h := ?_)
   | refine oVg (h := ?_)
   | refine oKg (h := ?_)
   | fail)
  | fail

theorem steelyardref12_Name.holds (k : Nat) (a0 : ByteArray) (r : Bool) (h : steelyardref12_Name.f k a0 = some r) : Holds Tryz.prog (G0 0) 31 [] [.str a0] (.bool r) [] := by
 refine holds_of_sim (fun (r : Bool) => ⟨.bool r, [], fun _ => True⟩) h Tryz.func31 rfl (by kernel_rfl) 40 rfl (by simp) (by simp) [(0, .str a0)] rfl [] rfl [.tmp 2] rfl ?_
 clear h
 unfold steelyardref12_Name.f
 refine sim_mk ?_
 repeat' first
  | ((with_reducible refine gS ?_); first
   | with_reducible refine sim_seq ?_
   | with_reducible refine sim_block ?_
   | with_reducible refine sim_skip ?_
   | with_reducible refine sim_inBlock ?_
   | refine sR (h := ?_)
   | refine sX (h := ?_)
   | refine sY (h := ?_)
   | refine sN (h := ?_)
   | refine IHl0.out _ (_, _) _ (by omega) ?_
   | (refine sim_loop (fun k (x : ByteArray × Int) => match x with | (x0, x3) => steelyardref12_Name.l0 k x0 x3) (fun x => mkS [(0, .str x.1), (3, .int .i64 x.2)] ([] ++ []) []) _ (fun ⟨_, _⟩ => rfl) (fun k hkl0 IH x => ?_) ((_, _)) ?_; obtain ⟨x0, x3⟩ := x; simp only [steelyardref12_Name.l0]; have IHl0 := Hid.mk IH; clear IH; refine sim_mk ?_)
   | refine sF [] false
   | fail)
  | ((with_reducible refine gO ?_); first
   | with_reducible exact simB_none
   | ((with_reducible refine oGb ?_); refine oIb (fun hb => ?_) (fun hb => ?_))
   | ((with_reducible refine oGi ?_); first | refine oT (h := ?_) | refine oF' (h := ?_) | refine oI (fun hb hc => ?_) (fun hb hc => ?_))
   | refine oNil (h := ?_)
   | ((with_reducible refine gC ?_); first
    | refine oC true (hh := fun t ht => steelyardref12_letter.holds _ t ht) (h := fun t => ?_)
    | refine oCg true (hh := fun t ht => steelyardref12_digit.holds _ t ht) (h := fun t => ?_)
    | fail)
   | refine oV (h := ?_)
   | refine oVg (h := ?_)
   | refine oKg (h := ?_)
   | refine oKu (h := ?_)
   | fail)
  | ((with_reducible refine gL ?_); first
   | refine lC [] [] []
   | fail)
  | fail

theorem steelyardref12_May.holds (k : Nat) (u : Un) (r : Bool) (h : steelyardref12_May.f k u = some r) : Holds Tryz.prog (G0 0) 24 [] [avU u] (.bool r) [] := by
 refine holds_of_sim (fun (r : Bool) => ⟨.bool r, [], fun _ => True⟩) h Tryz.func24 rfl (by kernel_rfl) 17 rfl (by simp) (by simp) [(0, avU u)] rfl [] rfl [.tmp 2] rfl ?_
 clear h
 unfold steelyardref12_May.f
 refine sim_mk ?_
 repeat' first
  | ((with_reducible refine gS ?_); first
   | with_reducible refine sim_seq ?_
   | refine sR (h := ?_)
   | refine sF [] false
   | fail)
  | ((with_reducible refine gO ?_); first
   | ((with_reducible refine oGb ?_); refine oIb (fun hb => ?_) (fun hb => ?_))
   | ((with_reducible refine oGi ?_); first | refine oT (h := ?_) | refine oF' (h := ?_) | refine oI (fun hb hc => ?_) (fun hb hc => ?_))
   | refine oNil (h := ?_)
   | ((with_reducible refine gC ?_); first
    | refine oC true (hh := fun t ht => steelyardref07_Good.holds _ _ _ _ t ht) (h := fun t => ?_)
    | refine oCg true (hh := fun t ht => steelyardref07_Sign.holds _ _ _ _ t ht) (h := fun t => ?_)
    | refine oCg true (hh := fun t ht => steelyardref11_Good.holds _ t ht) (h := fun t => ?_)
    | fail)
   | refine oV (h := ?_)
   | refine oVg (h := ?_)
   | refine oKg (h := ?_)
   | refine oN (h := ?_)
   | fail)
  | fail

end Go.Proofs.YtpchdjdochkjpaaGreatDoor.P

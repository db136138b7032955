/- Contracts: each Go function of a package comes to its plain function. -/
import Derived.Test.YtpchdjdochkjpaaGreatDoorMc
import Derived.Test.YtpchdjdochkjpaaGreatDoorMx
import Derived.Test.YtpchdjdochkjpaaGreatDoorHrat
import Derived.Test.YtpchdjdochkjpaaGreatDoorHdim
import Derived.Test.YtpchdjdochkjpaaGreatDoorHn
import Derived.Test.YtpchdjdochkjpaaGreatDoorHpower
set_option linter.unusedVariables false
set_option linter.unusedSimpArgs false
set_option maxRecDepth 100000
set_option maxHeartbeats 8000000
namespace Go.Proofs.YtpchdjdochkjpaaGreatDoor.P
open Go Go.RowKit Go.Proofs.YtpchdjdochkjpaaGreatDoor.Am Go.Proofs.YtpchdjdochkjpaaGreatDoorW.PrintWords Go.Proofs.YtpchdjdochkjpaaGreatDoorW.PrintMore
attribute [local irreducible] cpy rd bt strOfNums ByteArray.extract
theorem unit_number.holds (k : Nat) (a0 : Int) (r : Bool × List Int × List Int) (h : unit_number.f k a0 = some r) : Holds Tryz.prog (G0 0) 106 [] [.int .i64 a0] (.agg [.bool r.1, .sl 1 (.int .u32 0) (r.2.1.map (AV.int .u32)), .sl 1 (.int .u32 0) (r.2.2.map (AV.int .u32))]) [] := by
 refine holds_of_sim (fun (r : Bool × List Int × List Int) => ⟨.agg [.bool r.1, .sl 1 (.int .u32 0) (r.2.1.map (AV.int .u32)), .sl 1 (.int .u32 0) (r.2.2.map (AV.int .u32))], [], fun _ => True⟩) h Tryz.func106 rfl (by kernel_rfl) 18 rfl (by simp) (by simp) [(0, .int .i64 a0)] rfl [] rfl [.cell 2 33] rfl ?_
 clear h
 unfold unit_number.f
 refine sim_mk ?_
 repeat' first
  | ((with_reducible refine gS ?_); first
   | with_reducible refine sim_seq ?_
   | with_reducible refine sim_skip ?_
   | refine sR (h := ?_)
   | refine sY (h := ?_)
   | refine sN (h := ?_)
   | refine sF [] false
   | fail)
  | ((with_reducible refine gO ?_); first
   | ((with_reducible refine oGi ?_); first | refine oT (h := ?_) | refine oF' (h := ?_) | refine oI (fun hb hc => ?_) (fun hb hc => ?_))
   | refine oNil (h := ?_)
   | ((with_reducible refine gC ?_); first
    | refine oC false (hh := fun t ht => rat_Whole.holds _ _ t ht) (h := fun t => ?_)
    | refine oC false (hh := fun t ht => rat_Div.holds _ _ _ _ _ _ _ t ht) (h := fun t => ?_)
    | fail)
   | refine oV (h := ?_)
   | refine oS (h := ?_)
   | refine oN (h := ?_)
   | fail)
  | fail

theorem unit_copied.holds (k : Nat) (a0_0 : Bool) (l0_1 : List Int) (l0_2 : List Int) (a0_3 : Int) (a0_4 : Int) (a0_5 : Int) (a0_6 : Int) (a0_7 : Int) (a0_8 : Int) (a0_9 : Int) (r : Bool × List Int × List Int × Int × Int × Int × Int × Int × Int × Int) (h : unit_copied.f k a0_0 l0_1 l0_2 a0_3 a0_4 a0_5 a0_6 a0_7 a0_8 a0_9 = some r) : Holds Tryz.prog (G0 0) 42 [] [.agg [.bool a0_0, .sl 1 (.int .u32 0) (l0_1.map (AV.int .u32)), .sl 1 (.int .u32 0) (l0_2.map (AV.int .u32)), .int .i64 a0_3, .int .i64 a0_4, .int .i64 a0_5, .int .i64 a0_6, .int .i64 a0_7, .int .i64 a0_8, .int .i64 a0_9]] (.agg [.bool r.1, .sl 1 (.int .u32 0) (r.2.1.map (AV.int .u32)), .sl 1 (.int .u32 0) (r.2.2.1.map (AV.int .u32)), .int .i64 r.2.2.2.1, .int .i64 r.2.2.2.2.1, .int .i64 r.2.2.2.2.2.1, .int .i64 r.2.2.2.2.2.2.1, .int .i64 r.2.2.2.2.2.2.2.1, .int .i64 r.2.2.2.2.2.2.2.2.1, .int .i64 r.2.2.2.2.2.2.2.2.2]) [] := by
 refine holds_of_sim (fun (r : Bool × List Int × List Int × Int × Int × Int × Int × Int × Int × Int) => ⟨.agg [.bool r.1, .sl 1 (.int .u32 0) (r.2.1.map (AV.int .u32)), .sl 1 (.int .u32 0) (r.2.2.1.map (AV.int .u32)), .int .i64 r.2.2.2.1, .int .i64 r.2.2.2.2.1, .int .i64 r.2.2.2.2.2.1, .int .i64 r.2.2.2.2.2.2.1, .int .i64 r.2.2.2.2.2.2.2.1, .int .i64 r.2.2.2.2.2.2.2.2.1, .int .i64 r.2.2.2.2.2.2.2.2.2], [], fun _ => True⟩) h Tryz.func42 rfl (by kernel_rfl) 9 rfl (by simp) (by simp) [(0, .agg [.bool a0_0, .sl 1 (.int .u32 0) (l0_1.map (AV.int .u32)), .sl 1 (.int .u32 0) (l0_2.map (AV.int .u32)), .int .i64 a0_3, .int .i64 a0_4, .int .i64 a0_5, .int .i64 a0_6, .int .i64 a0_7, .int .i64 a0_8, .int .i64 a0_9])] rfl [] rfl [.cell 2 37] rfl ?_
 clear h
 unfold unit_copied.f
 refine sim_mk ?_
 repeat' first
  | ((with_reducible refine gS ?_); first
   | with_reducible refine sim_seq ?_
   | refine sR (h := ?_)
   | refine sF [] false
   | fail)
  | ((with_reducible refine gO ?_); first
   | refine oNil (h := ?_)
   | ((with_reducible refine gC ?_); first
    | refine oC false (hh := fun t ht => rat_Neg.holds _ _ _ _ t ht) (h := fun t => ?_)
    | fail)
   | refine oV (h := ?_)
   | refine oS (h := ?_)
   | refine oN (h := ?_)
   | fail)
  | fail

theorem unit_may.holds (k : Nat) (u : Un) (r : Bool) (h : unit_may.f k u = some r) : Holds Tryz.prog (G0 0) 40 [] [avU u] (.bool r) [] := by
 refine holds_of_sim (fun (r : Bool) => ⟨.bool r, [], fun _ => True⟩) h Tryz.func40 rfl (by kernel_rfl) 12 rfl (by simp) (by simp) [(0, avU u)] rfl [] rfl [.tmp 2] rfl ?_
 clear h
 unfold unit_may.f
 refine sim_mk ?_
 repeat' first
  | ((with_reducible refine gS ?_); first
   | with_reducible refine sim_seq ?_
   | refine sR (h := ?_)
   | refine sF [] false
   | fail)
  | ((with_reducible refine gO ?_); first
   | ((with_reducible refine oGi ?_); first | refine oT (h := ?_) | refine oF' (h := ?_) | refine oI (fun hb hc => ?_) (fun hb hc => ?_))
   | refine oNil (h := ?_)
   | ((with_reducible refine gC ?_); first
    | refine oCg true (hh := fun t ht => dim_Good.holds _ t ht) (h := fun t => ?_)
    | refine oC true (hh := fun t ht => rat_Sign.holds _ _ _ _ t ht) (h := fun t => ?_)
    | fail)
   | refine oV (h := ?_)
   | refine oVg (h := ?_)
   | refine oKg (h := ?_)
   | refine oN (h := ?_)
   | fail)
  | fail

theorem unit_letter.holds (a0 : Int) (r : Bool) (h : unit_letter.f a0 = some r) : Holds Tryz.prog (G0 0) 74 [] [.int .u8 a0] (.bool r) [] := by
 refine holds_of_sim (fun (r : Bool) => ⟨.bool r, [], fun _ => True⟩) h Tryz.func74 rfl (by kernel_rfl) 17 rfl (by simp) (by simp) [(0, .int .u8 a0)] rfl [] rfl [.tmp 2] rfl ?_
 clear h
 unfold unit_letter.f
 refine sim_mk ?_
 repeat' first
  | ((with_reducible refine gS ?_); first
   | with_reducible refine sim_seq ?_
   | refine sR (h := ?_)
   | refine sF [] false
   | fail)
  | ((with_reducible refine gO ?_); first
   | ((with_reducible refine oGi ?_); first | refine oT (h := ?_) | refine oF' (h := ?_) | refine oI (fun hb hc => ?_) (fun hb hc => ?_))
   | refine oNil (h := ?_)
   | refine oV (h := ?_)
   | refine oVg (h := ?_)
   | refine oKg (h := ?_)
   | refine oKu (h := ?_)
   | fail)
  | fail

theorem unit_digit.holds (a0 : Int) (r : Bool) (h : unit_digit.f a0 = some r) : Holds Tryz.prog (G0 0) 75 [] [.int .u8 a0] (.bool r) [] := by
 refine holds_of_sim (fun (r : Bool) => ⟨.bool r, [], fun _ => True⟩) h Tryz.func75 rfl (by kernel_rfl) 9 rfl (by simp) (by simp) [(0, .int .u8 a0)] rfl [] rfl [.tmp 2] rfl ?_
 clear h
 unfold unit_digit.f
 refine sim_mk ?_
 repeat' first
  | ((with_reducible refine gS ?_); first
   | with_reducible refine sim_seq ?_
   | refine sR (h := ?_)
   | refine sF [] false
   | fail)
  | ((with_reducible refine gO ?_); first
   | ((with_reducible refine oGi ?_); first | refine oT (h := ?_) | refine oF' (h := ?_) | refine oI (fun hb hc => ?_) (fun hb hc => ?_))
   | refine oNil (h := ?_)
   | refine oV (h := ?_)
   | refine oVg (h := ?_)
   | refine oKg (h := ?_)
   | fail)
  | fail

theorem unit_name.holds (k : Nat) (a0 : ByteArray) (r : Int) (h : unit_name.f k a0 = some r) : Holds Tryz.prog (G0 0) 41 [] [.str a0] (.int .i64 r) [] := by
 refine holds_of_sim (fun (r : Int) => ⟨.int .i64 r, [], fun _ => True⟩) h Tryz.func41 rfl (by kernel_rfl) 38 rfl (by simp) (by simp) [(0, .str a0)] rfl [] rfl [.tmp 2] rfl ?_
 clear h
 unfold unit_name.f
 refine sim_mk ?_
 repeat' first
  | ((with_reducible refine gS ?_); first
   | with_reducible refine sim_seq ?_
   | with_reducible refine sim_block ?_
   | with_reducible refine sim_skip ?_
   | with_reducible refine sim_inBlock ?_
   | refine sR (h := ?_)
   | refine sX (h := ?_)
   | with_reducible refine sIn (fun hb => ?_) (fun hb => ?_)
   | refine sY (h := ?_)
   | refine sN (h := ?_)
   | refine IHl0.out _ (_, _) _ (by omega) ?_
   | (refine sim_loop (fun k (x : ByteArray × Int) => match x with | (x0, x3) => unit_name.l0 k x0 x3) (fun x => mkS [(0, .str x.1), (3, .int .i64 x.2)] ([] ++ []) []) _ (fun ⟨_, _⟩ => rfl) (fun k hkl0 IH x => ?_) ((_, _)) ?_; obtain ⟨x0, x3⟩ := x; simp only [unit_name.l0]; have IHl0 := Hid.mk IH; clear IH; refine sim_mk ?_)
   | (refine sJ (fun k => unit_name.j0 k _ _) rfl (fun k hk => ?_); simp only [unit_name.j0, reduceIte, Bool.false_eq_true, decide_eq_true_eq])
   | refine sF [] false
   | fail)
  | ((with_reducible refine gO ?_); first
   | with_reducible exact simB_none
   | ((with_reducible refine oGb ?_); refine oIb (fun hb => ?_) (fun hb => ?_))
   | ((with_reducible refine oGi ?_); first | refine oT (h := ?_) | refine oF' (h := ?_) | refine oI (fun hb hc => ?_) (fun hb hc => ?_))
   | refine oNil (h := ?_)
   | ((with_reducible refine gC ?_); first
    | refine oCg true (hh := fun t ht => unit_letter.holds _ t ht) (h := fun t => ?_)
    | refine oCg true (hh := fun t ht => unit_digit.holds _ t ht) (h := fun t => ?_)
    | fail)
   | refine oV (h := ?_)
   | refine oVg (h := ?_)
   | refine oKg (h := ?_)
   | refine oKu (h := ?_)
   | fail)
  | ((with_reducible refine gL ?_); first
   | refine lC [] [] []
   | fail)
  | fail

theorem unit_reader_skip.holds (k : Nat) (v : Value) (s : ByteArray) (x : Rd) (r : Rd) (h : unit_reader_skip.f k s x = some r) : Holds Tryz.prog (G0 0) 45 [rdR v s x] [.optr 0 0 0] (.tup []) [rdR v s r] := by
 refine holds_of_sim (fun (r : Rd) => ⟨.tup [], [rdR v s r], fun _ => True⟩) h Tryz.func45 rfl (by kernel_rfl) 19 rfl (by simp) (by simp) [(0, .optr 0 0 0)] rfl [0] rfl [] rfl ?_
 clear h
 unfold unit_reader_skip.f
 refine sim_mk ?_
 repeat' first
  | ((with_reducible refine gS ?_); first
   | with_reducible refine sim_seq ?_
   | with_reducible refine sim_block ?_
   | with_reducible refine sim_skip ?_
   | with_reducible refine sim_inBlock ?_
   | refine sR (h := ?_)
   | refine sX (h := ?_)
   | refine sD (hm := by exact mixed) (h := ?_)
   | refine sY (h := ?_)
   | refine sN (h := ?_)
   | refine IHl0.out _ _ _ (by omega) ?_
   | (refine sim_loop (fun k (x : Rd) => unit_reader_skip.l0 k s x) (fun x => mkS [(0, .optr 0 0 0)] [0] [rdR v s x]) _ (fun _ => rfl) (fun k hkl0 IH x => ?_) (_) ?_; simp only [unit_reader_skip.l0]; have IHl0 := Hid.mk IH; clear IH; refine sim_mk ?_)
   | refine sFe [0] false
   | fail)
  | ((with_reducible refine gO ?_); first
   | with_reducible exact simB_none
   | ((with_reducible refine oGb ?_); refine oIb (fun hb => ?_) (fun hb => ?_))
   | ((with_reducible refine oGi ?_); first | refine oT (h := ?_) | refine oF' (h := ?_) | refine oI (fun hb hc => ?_) (fun hb hc => ?_))
   | refine oNil (h := ?_)
   | ((with_reducible refine gC ?_); first
    | refine oC true (hh := fun t ht => strings_HasPrefix.holds _ _ t ht) (h := fun t => ?_)
    | fail)
   | refine oV (h := ?_)
   | refine oS (h := ?_)
   | fail)
  | ((with_reducible refine gL ?_); first
   | refine lC [0] [] []
   | fail)
  | fail

theorem unit_reader_fails.holds (v : Value) (s : ByteArray) (x : Rd) (e p : Int) (r : Rd) (h : unit_reader_fails.f x e p = some r) : Holds Tryz.prog (G0 0) 46 [rdR v s x] [.optr 0 0 0, .int .i64 e, .int .i64 p] (.tup []) [rdR v s r] := by
 refine holds_of_sim (fun (r : Rd) => ⟨.tup [], [rdR v s r], fun _ => True⟩) h Tryz.func46 rfl (by kernel_rfl) 18 rfl (by simp) (by simp) [(0, .optr 0 0 0), (1, .int .i64 e), (2, .int .i64 p)] rfl [0] rfl [] rfl ?_
 clear h
 unfold unit_reader_fails.f
 refine sim_mk ?_
 repeat' first
  | ((with_reducible refine gS ?_); first
   | with_reducible refine sim_seq ?_
   | with_reducible refine sim_skip ?_
   | refine sR (h := ?_)
   | refine sY (h := ?_)
   | refine sN (h := ?_)
   | refine sFe [0] false
   | fail)
  | ((with_reducible refine gO ?_); first
   | ((with_reducible refine oGi ?_); first | refine oT (h := ?_) | refine oF' (h := ?_) | refine oI (fun hb hc => ?_) (fun hb hc => ?_))
   | refine oNil (h := ?_)
   | refine oV (h := ?_)
   | refine oS (h := ?_)
   | fail)
  | fail

theorem unit_raised.holds (k : Nat) (u : Un) (n : Int) (r : Un × Bool) (h : unit_raised.f k u n = some r) : Holds Tryz.prog (G0 0) 78 [] [avU u, .int .i64 n] (.tup [avU r.1, .bool r.2]) [] := by
 refine holds_of_sim (fun (r : Un × Bool) => ⟨.tup [avU r.1, .bool r.2], [], fun _ => True⟩) h Tryz.func78 rfl (by kernel_rfl) 40 rfl (by simp) (by simp) [(0, avU u), (1, .int .i64 n)] rfl [] rfl [.cell 4 37, .tmp 5] rfl ?_
 clear h
 unfold unit_raised.f
 refine sim_mk ?_
 repeat' first
  | ((with_reducible refine gS ?_); first
   | with_reducible refine sim_seq ?_
   | with_reducible refine sim_skip ?_
   | refine sR (h := ?_)
   | refine sY (h := ?_)
   | refine sN (h := ?_)
   | refine sF [] false
   | fail)
  | ((with_reducible refine gO ?_); first
   | ((with_reducible refine oGi ?_); first | refine oT (h := ?_) | refine oF' (h := ?_) | refine oI (fun hb hc => ?_) (fun hb hc => ?_))
   | refine oNil (h := ?_)
   | ((with_reducible refine gC ?_); first
    | refine oC true (hh := fun t ht => dim_Pow.holds _ _ t ht) (h := fun t => ?_)
    | refine oC false (hh := fun t ht => power_Of.holds _ _ _ _ _ t ht) (h := fun t => ?_)
    | fail)
   | refine oV (h := ?_)
   | refine oVg (h := ?_)
   | refine oKg (h := ?_)
   | refine oS (h := ?_)
   | refine oN (h := ?_)
   | fail)
  | fail

theorem unit_reader_sign.holds (k : Nat) (v : Value) (s : ByteArray) (x : Rd) (g : ByteArray) (r : Rd × Int) (h : unit_reader_sign.f k s x g = some r) : Holds Tryz.prog (G0 0) 44 [rdR v s x] [.optr 0 0 0, .str g] (.int .u8 r.2) [rdR v s r.1] := by
 refine holds_of_sim (fun (r : Rd × Int) => ⟨.int .u8 r.2, [rdR v s r.1], fun _ => True⟩) h Tryz.func44 rfl (by kernel_rfl) 53 rfl (by simp) (by simp) [(0, .optr 0 0 0), (1, .str g)] rfl [0] rfl [.tmp 4] rfl ?_
 clear h
 unfold unit_reader_sign.f
 refine sim_mk ?_
 repeat' first
  | ((with_reducible refine gS ?_); first
   | with_reducible refine sim_seq ?_
   | with_reducible refine sim_skip ?_
   | refine sR (h := ?_)
   | refine sD (hm := by exact mixed) (h := ?_)
   | refine sY (h := ?_)
   | refine sN (h := ?_)
   | refine sF [0] false
   | fail)
  | ((with_reducible refine gO ?_); first
   | with_reducible exact simB_none
   | ((with_reducible refine oGb ?_); refine oIb (fun hb => ?_) (fun hb => ?_))
   | ((with_reducible refine oGi ?_); first | refine oT (h := ?_) | refine oF' (h := ?_) | refine oI (fun hb hc => ?_) (fun hb hc => ?_))
   | refine oNil (h := ?_)
   | ((with_reducible refine gC ?_); first
    | refine oW [0] false (hh := fun t ht => unit_reader_skip.holds _ v _ _ t ht) (h := fun t => ?_)
    | refine oCg true (hh := fun t ht => strings_Contains.holds _ _ t ht) (h := fun t => ?_)
    | fail)
   | refine oV (h := ?_)
   | refine oVg (h := ?_)
   | refine oKg (h := ?_)
   | refine oS (h := ?_)
   | fail)
  | fail

end Go.Proofs.YtpchdjdochkjpaaGreatDoor.P

/- Contracts: each Go function of a package comes to its plain function. · Contracts: each Go function of a package comes to its plain function. -/
import Derived.Test.YtpchdjdochkjpaaGreatDoorMc
import Derived.Test.YtpchdjdochkjpaaGreatDoorMx
import Derived.Test.YtpchdjdochkjpaaGreatDoorShelf
set_option linter.unusedVariables false
set_option linter.unusedSimpArgs false
set_option maxRecDepth 100000
set_option maxHeartbeats 8000000
namespace Go.Proofs.YtpchdjdochkjpaaGreatDoor.P
open Go Go.RowKit Go.Proofs.YtpchdjdochkjpaaGreatDoor.Am Go.Proofs.YtpchdjdochkjpaaGreatDoorW.PrintWords Go.Proofs.YtpchdjdochkjpaaGreatDoorW.PrintMore
attribute [local irreducible] cpy rd bt strOfNums ByteArray.extract
theorem cmp_isNaN_int.holds (a0 : Int) (r : Bool) (h : cmp_isNaN_int.f a0 = some r) : Holds Tryz.prog (G0 0) 158 [] [.int .i64 a0] (.bool r) [] := by
 refine holds_of_sim (fun (r : Bool) => ⟨.bool r, [], fun _ => True⟩) h Tryz.func158 rfl (by kernel_rfl) 6 rfl (by simp) (by simp) [(0, .int .i64 a0)] rfl [] rfl [.tmp 2] rfl ?_
 clear h
 unfold cmp_isNaN_int.f
 refine sim_mk ?_
 repeat' first
  | ((with_reducible refine gS ?_); first
  | with_reducible refine sim_seq ?_
  | refine sR (h := ?_)
  | refine sF [] false
  | fail)
  | ((with_reducible refine gO ?_); first
  | refine oNil (h := ?_)
  | refine oV (h := ?_)
  | fail)
  | fail

theorem cmp_Compare_int.holds (a0 : Int) (a1 : Int) (r : Int) (h : cmp_Compare_int.f a0 a1 = some r) : Holds Tryz.prog (G0 0) 122 [] [.int .i64 a0, .int .i64 a1] (.int .i64 r) [] := by
 refine holds_of_sim (fun (r : Int) => ⟨.int .i64 r, [], fun _ => True⟩) h Tryz.func122 rfl (by kernel_rfl) 20 rfl (by simp) (by simp) [(0, .int .i64 a0), (1, .int .i64 a1)] rfl [] rfl [.tmp 4] rfl ?_
 clear h
 unfold cmp_Compare_int.f
 refine sim_mk ?_
 repeat' first
  | ((with_reducible refine gS ?_); first
  | with_reducible refine sim_seq ?_
  | with_reducible refine sim_skip ?_
  | refine sR (h := ?_)
  | refine sY (h := ?_)
  | refine sN (h := ?_)
  | refine sF [] false
  | fail)
  | ((with_reducible refine gO ?_); first
  | ((with_reducible refine oGb ?_); refine oIb (fun hb => ?_) (fun hb => ?_))
  | ((with_reducible refine oGi ?_); first | refine oT (h := ?_) | refine oF' (h := ?_) | refine oI (fun hb hc => ?_) (fun hb hc => ?_))
  | refine oNil (h := ?_)
  | ((with_reducible refine gC ?_); first
   | refine oC true (hh := fun t ht => cmp_isNaN_int.holds _ t ht) (h := fun t => ?_)
   | fail)
  | refine oV (h := ?_)
  | fail)
  | fail

theorem cmp_isNaN_uint32.holds (a0 : Int) (r : Bool) (h : cmp_isNaN_uint32.f a0 = some r) : Holds Tryz.prog (G0 0) 159 [] [.int .u32 a0] (.bool r) [] := by
 refine holds_of_sim (fun (r : Bool) => ⟨.bool r, [], fun _ => True⟩) h Tryz.func159 rfl (by kernel_rfl) 6 rfl (by simp) (by simp) [(0, .int .u32 a0)] rfl [] rfl [.tmp 2] rfl ?_
 clear h
 unfold cmp_isNaN_uint32.f
 refine sim_mk ?_
 repeat' first
  | ((with_reducible refine gS ?_); first
  | with_reducible refine sim_seq ?_
  | refine sR (h := ?_)
  | refine sF [] false
  | fail)
  | ((with_reducible refine gO ?_); first
  | refine oNil (h := ?_)
  | refine oV (h := ?_)
  | fail)
  | fail

theorem cmp_Compare_uint32.holds (a0 : Int) (a1 : Int) (r : Int) (h : cmp_Compare_uint32.f a0 a1 = some r) : Holds Tryz.prog (G0 0) 123 [] [.int .u32 a0, .int .u32 a1] (.int .i64 r) [] := by
 refine holds_of_sim (fun (r : Int) => ⟨.int .i64 r, [], fun _ => True⟩) h Tryz.func123 rfl (by kernel_rfl) 20 rfl (by simp) (by simp) [(0, .int .u32 a0), (1, .int .u32 a1)] rfl [] rfl [.tmp 4] rfl ?_
 clear h
 unfold cmp_Compare_uint32.f
 refine sim_mk ?_
 repeat' first
  | ((with_reducible refine gS ?_); first
  | with_reducible refine sim_seq ?_
  | with_reducible refine sim_skip ?_
  | refine sR (h := ?_)
  | refine sY (h := ?_)
  | refine sN (h := ?_)
  | refine sF [] false
  | fail)
  | ((with_reducible refine gO ?_); first
  | ((with_reducible refine oGb ?_); refine oIb (fun hb => ?_) (fun hb => ?_))
  | ((with_reducible refine oGi ?_); first | refine oT (h := ?_) | refine oF' (h := ?_) | refine oI (fun hb hc => ?_) (fun hb hc => ?_))
  | refine oNil (h := ?_)
  | ((with_reducible refine gC ?_); first
   | refine oC true (hh := fun t ht => cmp_isNaN_uint32.holds _ t ht) (h := fun t => ?_)
   | fail)
  | refine oV (h := ?_)
  | fail)
  | fail

theorem bits_Len32.holds (a0 : Int) (r : Int) (h : bits_Len32.f a0 = some r) : Holds Tryz.prog (G0 0) 150 [] [.int .u32 a0] (.int .i64 r) [] := by
 refine holds_of_sim (fun (r : Int) => ⟨.int .i64 r, [], fun _ => True⟩) h Tryz.func150 rfl (by kernel_rfl) 19 rfl (by simp) (by simp) [(0, .int .u32 a0)] rfl [] rfl [.tmp 2] rfl ?_
 clear h
 unfold bits_Len32.f
 refine sim_mk ?_
 rw [show (⟨(([0, 1, 2, 2, 3, 3, 3, 3, 4, 4, 4, 4, 4, 4, 4, 4, 5, 5, 5, 5, 5, 5, 5, 5, 5, 5, 5, 5, 5, 5, 5, 5, 6, 6, 6, 6, 6, 6, 6, 6, 6, 6, 6, 6, 6, 6, 6, 6, 6, 6, 6, 6, 6, 6, 6, 6, 6, 6, 6, 6, 6, 6, 6, 6].append [7, 7, 7, 7, 7, 7, 7, 7, 7, 7, 7, 7, 7, 7, 7, 7, 7, 7, 7, 7, 7, 7, 7, 7, 7, 7, 7, 7, 7, 7, 7, 7, 7, 7, 7, 7, 7, 7, 7, 7, 7, 7, 7, 7, 7, 7, 7, 7, 7, 7, 7, 7, 7, 7, 7, 7, 7, 7, 7, 7, 7, 7, 7, 7]).append ([8, 8, 8, 8, 8, 8, 8, 8, 8, 8, 8, 8, 8, 8, 8, 8, 8, 8, 8, 8, 8, 8, 8, 8, 8, 8, 8, 8, 8, 8, 8, 8, 8, 8, 8, 8, 8, 8, 8, 8, 8, 8, 8, 8, 8, 8, 8, 8, 8, 8, 8, 8, 8, 8, 8, 8, 8, 8, 8, 8, 8, 8, 8, 8].append [8, 8, 8, 8, 8, 8, 8, 8, 8, 8, 8, 8, 8, 8, 8, 8, 8, 8, 8, 8, 8, 8, 8, 8, 8, 8, 8, 8, 8, 8, 8, 8, 8, 8, 8, 8, 8, 8, 8, 8, 8, 8, 8, 8, 8, 8, 8, 8, 8, 8, 8, 8, 8, 8, 8, 8, 8, 8, 8, 8, 8, 8, 8, 8])).toArray⟩ : ByteArray) = len8_ from rfl]
 have hs8 : (len8_.size : Int) = 256 := rfl
 generalize len8_ = T8 at hs8 ⊢
 have hw1 : wrap64 (16 + 8) = 16 + 8 := by unfold wrap64; omega
 have hw2 : wrap64 (0 + 8) = 0 + 8 := by unfold wrap64; omega
 repeat' first
  | ((with_reducible refine gS ?_); first
  | with_reducible refine sim_seq ?_
  | with_reducible refine sim_skip ?_
  | refine sR (h := ?_)
  | refine sY (h := ?_)
  | refine sN (h := ?_)
  | refine sF [] false
  | fail)
  | ((with_reducible refine gO ?_); first
  | with_reducible exact simB_none
  | ((with_reducible refine oGi ?_); first | refine oT (h := ?_) | refine oF' (h := ?_) | refine oI (fun hb hc => ?_) (fun hb hc => ?_))
  | refine oNil (h := ?_)
  | refine oV (h := ?_)
  | fail)
  | fail

theorem bits_LeadingZeros32.holds (a0 : Int) (r : Int) (h : bits_LeadingZeros32.f a0 = some r) : Holds Tryz.prog (G0 0) 124 [] [.int .u32 a0] (.int .i64 r) [] := by
 refine holds_of_sim (fun (r : Int) => ⟨.int .i64 r, [], fun _ => True⟩) h Tryz.func124 rfl (by kernel_rfl) 6 rfl (by simp) (by simp) [(0, .int .u32 a0)] rfl [] rfl [.tmp 2] rfl ?_
 clear h
 unfold bits_LeadingZeros32.f
 refine sim_mk ?_
 repeat' first
  | ((with_reducible refine gS ?_); first
  | with_reducible refine sim_seq ?_
  | refine sR (h := ?_)
  | refine sF [] false
  | fail)
  | ((with_reducible refine gO ?_); first
  | refine oNil (h := ?_)
  | ((with_reducible refine gC ?_); first
   | refine oC true (hh := fun t ht => bits_Len32.holds _ t ht) (h := fun t => ?_)
   | fail)
  | refine oV (h := ?_)
  | fail)
  | fail

theorem bits_Sub32.holds (a0 : Int) (a1 : Int) (a2 : Int) (r : Int × Int) (h : bits_Sub32.f a0 a1 a2 = some r) : Holds Tryz.prog (G0 0) 182 [] [.int .u32 a0, .int .u32 a1, .int .u32 a2] (.tup [.int .u32 r.1, .int .u32 r.2]) [] := by
 refine holds_of_sim (fun (r : Int × Int) => ⟨.tup [.int .u32 r.1, .int .u32 r.2], [], fun _ => True⟩) h Tryz.func182 rfl (by kernel_rfl) 25 rfl (by simp) (by simp) [(0, .int .u32 a0), (1, .int .u32 a1), (2, .int .u32 a2)] rfl [] rfl [.tmp 6, .tmp 7] rfl ?_
 clear h
 unfold bits_Sub32.f
 refine sim_mk ?_
 repeat' first
  | ((with_reducible refine gS ?_); first
  | with_reducible refine sim_seq ?_
  | refine sR (h := ?_)
  | refine sF [] false
  | fail)
  | ((with_reducible refine gO ?_); first
  | refine oNil (h := ?_)
  | refine oV (h := ?_)
  | fail)
  | fail

theorem stringslite_HasPrefix.holds (a0 : ByteArray) (a1 : ByteArray) (r : Bool) (h : stringslite_HasPrefix.f a0 a1 = some r) : Holds Tryz.prog (G0 0) 109 [] [.str a0, .str a1] (.bool r) [] := by
 refine holds_of_sim (fun (r : Bool) => ⟨.bool r, [], fun _ => True⟩) h Tryz.func109 rfl (by kernel_rfl) 18 rfl (by simp) (by simp) [(0, .str a0), (1, .str a1)] rfl [] rfl [.tmp 4] rfl ?_
 clear h
 unfold stringslite_HasPrefix.f
 refine sim_mk ?_
 repeat' first
  | ((with_reducible refine gS ?_); first
  | with_reducible refine sim_seq ?_
  | refine sR (h := ?_)
  | refine sF [] false
  | fail)
  | ((with_reducible refine gO ?_); first
  | with_reducible exact simB_none
  | ((with_reducible refine oGi ?_); first | refine oT (h := ?_) | refine oF' (h := ?_) | refine oI (fun hb hc => ?_) (fun hb hc => ?_))
  | refine oNil (h := ?_)
  | refine oV (h := ?_)
  | refine oVg (h := ?_)
  | refine oKg (h := ?_)
  | fail)
  | fail

theorem strings_HasPrefix.holds (a0 : ByteArray) (a1 : ByteArray) (r : Bool) (h : strings_HasPrefix.f a0 a1 = some r) : Holds Tryz.prog (G0 0) 77 [] [.str a0, .str a1] (.bool r) [] := by
 refine holds_of_sim (fun (r : Bool) => ⟨.bool r, [], fun _ => True⟩) h Tryz.func77 rfl (by kernel_rfl) 8 rfl (by simp) (by simp) [(0, .str a0), (1, .str a1)] rfl [] rfl [.tmp 4] rfl ?_
 clear h
 unfold strings_HasPrefix.f
 refine sim_mk ?_
 repeat' first
  | ((with_reducible refine gS ?_); first
  | with_reducible refine sim_seq ?_
  | refine sR (h := ?_)
  | refine sF [] false
  | fail)
  | ((with_reducible refine gO ?_); first
  | refine oNil (h := ?_)
  | ((with_reducible refine gC ?_); first
   | refine oC true (hh := fun t ht => stringslite_HasPrefix.holds _ _ t ht) (h := fun t => ?_)
   | fail)
  | refine oV (h := ?_)
  | fail)
  | fail

theorem strings_Contains.holds (a0 : ByteArray) (a1 : ByteArray) (r : Bool) (h : strings_Contains.f a0 a1 = some r) : Holds Tryz.prog (G0 0) 81 [] [.str a0, .str a1] (.bool r) [] := by
 unfold strings_Contains.f at h
 by_cases hs : a1.size = 1
 ·rw [if_pos hs] at h
  obtain rfl := Option.some.inj h
  obtain ⟨c, rfl⟩ : ∃ c, a1 = ⟨#[c]⟩ := by
   obtain ⟨⟨l⟩⟩ := a1
   rcases l with _ | ⟨c, _ | ⟨d, l⟩⟩
   ·simp [ByteArray.size] at hs
   ·exact ⟨c, rfl⟩
   ·simp [ByteArray.size] at hs
  refine holds_below (by kernel_rfl) (fun w fz β vs hG hV => ?_)
  obtain ⟨v0, vs, rfl, h0, hV⟩ := hV.head
  obtain ⟨v1, vs, rfl, h1, hV⟩ := hV.head
  obtain rfl := hV.none
  obtain rfl := h0.str_inv
  obtain rfl := h1.str_inv
  refine ⟨_, (Tryz.strings_Contains_one a0 c w).mono ?_, fun w' fz' => .f _ _ (.bool _)⟩
  rintro e w' ⟨rfl, rfl⟩
  exact ⟨rfl, below_drewN w' 0⟩
 ·rw [if_neg hs] at h; cases h

end Go.Proofs.YtpchdjdochkjpaaGreatDoor.P
set_option linter.unusedVariables false
set_option linter.unusedSimpArgs false
set_option maxRecDepth 100000
set_option maxHeartbeats 8000000
namespace Go.Proofs.YtpchdjdochkjpaaGreatDoor.P
open Go Go.RowKit Go.Proofs.YtpchdjdochkjpaaGreatDoor.Am Go.Proofs.YtpchdjdochkjpaaGreatDoorW.PrintWords Go.Proofs.YtpchdjdochkjpaaGreatDoorW.PrintMore
attribute [local irreducible] cpy rd bt strOfNums ByteArray.extract
theorem nat_used.holds (k : Nat) (l0 : List Int) (r : Int) (h : nat_used.f k l0 = some r) : Holds Tryz.prog (G0 0) 121 [] [.sl 1 (.int .u32 0) (l0.map (AV.int .u32))] (.int .i64 r) [] := by
 refine holds_of_sim (fun (r : Int) => ⟨.int .i64 r, [], fun _ => True⟩) h Tryz.func121 rfl (by kernel_rfl) 19 rfl (by simp) (by simp) [(0, .sl 1 (.int .u32 0) (l0.map (AV.int .u32)))] rfl [] rfl [.tmp 2] rfl ?_
 clear h
 unfold nat_used.f
 refine sim_mk ?_
 repeat' first
  | ((with_reducible refine gS ?_); first
  | with_reducible refine sim_seq ?_
  | with_reducible refine sim_block ?_
  | with_reducible refine sim_skip ?_
  | with_reducible refine sim_inBlock ?_
  | refine sR (h := ?_)
  | refine sX (h := ?_)
  | refine sY (h := ?_)
  | refine sN (h := ?_)
  | refine IHl0.out _ (_, _) _ (by omega) ?_
  | (refine sim_loop (fun k (x : List Int × Int) => match x with | (x0, x3) => nat_used.l0 k x0 x3) (fun x => mkS [(0, .sl 1 (.int .u32 0) (x.1.map (AV.int .u32))), (3, .int .i64 x.2)] ([] ++ []) []) _ (fun ⟨_, _⟩ => rfl) (fun k hkl0 IH x => ?_) ((_, _)) ?_; obtain ⟨x0, x3⟩ := x; simp only [nat_used.l0]; have IHl0 := Hid.mk IH; clear IH; refine sim_mk ?_)
  | refine sF [] false
  | fail)
  | ((with_reducible refine gO ?_); first
  | with_reducible exact simB_none
  | ((with_reducible refine oGi ?_); first | refine oT (h := ?_) | refine oF' (h := ?_) | refine oI (fun hb hc => ?_) (fun hb hc => ?_))
  | refine oNil (h := ?_)
  | refine oV (h := ?_)
  | refine oVg (h := ?_)
  | refine oKg (h := ?_)
  | fail)
  | ((with_reducible refine gL ?_); first
  | refine lC [] [] []
  | fail)
  | fail

theorem nat_Trim.holds (k : Nat) (l0 : List Int) (r : List Int) (h : nat_Trim.f k l0 = some r) : Holds Tryz.prog (G0 0) 97 [] [.sl 1 (.int .u32 0) (l0.map (AV.int .u32))] (.own 0 0 r.length) [⟨84, 1, (.int .u32 0), r.map (AV.int .u32)⟩] := by
 refine holds_of_sim (fun (r : List Int) => ⟨.own 0 0 r.length, [⟨84, 1, (.int .u32 0), r.map (AV.int .u32)⟩], fun _ => True⟩) h Tryz.func97 rfl (by kernel_rfl) 11 rfl (by simp) (by simp) [(0, .sl 1 (.int .u32 0) (l0.map (AV.int .u32)))] rfl [] rfl [.tmp 2] rfl ?_
 clear h
 unfold nat_Trim.f
 refine sim_mk ?_
 repeat' first
  | ((with_reducible refine gS ?_); first
  | with_reducible refine sim_seq ?_
  | refine sR (h := ?_)
  | refine sF [] true
  | fail)
  | ((with_reducible refine gO ?_); first
  | with_reducible exact simB_none
  | ((with_reducible refine oGi ?_); first | refine oT (h := ?_) | refine oF' (h := ?_) | refine oI (fun hb hc => ?_) (fun hb hc => ?_))
  | refine oNil (h := ?_)
  | ((with_reducible refine gC ?_); first
   | refine oC true (hh := fun t ht => nat_used.holds _ _ t ht) (h := fun t => ?_)
   | fail)
  | refine oV (h := ?_)
  | refine oN (h := ?_)
  | fail)
  | fail

theorem nat_Of.holds (k : Nat) (a0 : Int) (r : List Int) (h : nat_Of.f k a0 = some r) : Holds Tryz.prog (G0 0) 68 [] [.int .u64 a0] (.own 0 0 r.length) [⟨84, 1, (.int .u32 0), r.map (AV.int .u32)⟩] := by
 refine holds_of_sim (fun (r : List Int) => ⟨.own 0 0 r.length, [⟨84, 1, (.int .u32 0), r.map (AV.int .u32)⟩], fun _ => True⟩) h Tryz.func68 rfl (by kernel_rfl) 10 rfl (by simp) (by simp) [(0, .int .u64 a0)] rfl [] rfl [.tmp 2] rfl ?_
 clear h
 unfold nat_Of.f
 refine sim_mk ?_
 repeat' first
  | ((with_reducible refine gS ?_); first
  | with_reducible refine sim_seq ?_
  | refine sR (h := ?_)
  | refine sF [] true
  | fail)
  | ((with_reducible refine gO ?_); first
  | refine oNil (h := ?_)
  | ((with_reducible refine gC ?_); first
   | refine oC true (hh := fun t ht => nat_Trim.holds _ _ t ht) (h := fun t => ?_)
   | fail)
  | refine oV (h := ?_)
  | refine oN (h := ?_)
  | fail)
  | fail

theorem nat_Cmp.holds (k : Nat) (l0 : List Int) (l1 : List Int) (r : Int) (h : nat_Cmp.f k l0 l1 = some r) : Holds Tryz.prog (G0 0) 94 [] [.sl 1 (.int .u32 0) (l0.map (AV.int .u32)), .sl 1 (.int .u32 0) (l1.map (AV.int .u32))] (.int .i64 r) [] := by
 refine holds_of_sim (fun (r : Int) => ⟨.int .i64 r, [], fun _ => True⟩) h Tryz.func94 rfl (by kernel_rfl) 36 rfl (by simp) (by simp) [(0, .sl 1 (.int .u32 0) (l0.map (AV.int .u32))), (1, .sl 1 (.int .u32 0) (l1.map (AV.int .u32)))] rfl [] rfl [.tmp 4] rfl ?_
 clear h
 unfold nat_Cmp.f
 refine sim_mk ?_
 repeat' first
  | ((with_reducible refine gS ?_); first
  | with_reducible refine sim_seq ?_
  | with_reducible refine sim_block ?_
  | with_reducible refine sim_skip ?_
  | with_reducible refine sim_inBlock ?_
  | refine sR (h := ?_)
  | refine sX (h := ?_)
  | refine sD (hm := by exact mixed) (h := ?_)
  | refine sY (h := ?_)
  | refine sN (h := ?_)
  | refine IHl0.out _ (_, _, _) _ (by omega) ?_
  | (refine sim_loop (fun k (x : List Int × List Int × Int) => match x with | (x0, x1, x7) => nat_Cmp.l0 k x0 x1 x7) (fun x => mkS [(0, .sl 1 (.int .u32 0) (x.1.map (AV.int .u32))), (1, .sl 1 (.int .u32 0) (x.2.1.map (AV.int .u32))), (7, .int .i64 x.2.2)] ([] ++ []) []) _ (fun ⟨_, _, _⟩ => rfl) (fun k hkl0 IH x => ?_) ((_, _, _)) ?_; obtain ⟨x0, x1, x7⟩ := x; simp only [nat_Cmp.l0]; have IHl0 := Hid.mk IH; clear IH; refine sim_mk ?_)
  | refine sF [] false
  | fail)
  | ((with_reducible refine gO ?_); first
  | with_reducible exact simB_none
  | ((with_reducible refine oGi ?_); first | refine oT (h := ?_) | refine oF' (h := ?_) | refine oI (fun hb hc => ?_) (fun hb hc => ?_))
  | refine oNil (h := ?_)
  | ((with_reducible refine gC ?_); first
   | refine oC true (hh := fun t ht => nat_used.holds _ _ t ht) (h := fun t => ?_)
   | refine oC true (hh := fun t ht => cmp_Compare_int.holds _ _ t ht) (h := fun t => ?_)
   | refine oC true (hh := fun t ht => cmp_Compare_uint32.holds _ _ t ht) (h := fun t => ?_)
   | fail)
  | refine oV (h := ?_)
  | fail)
  | ((with_reducible refine gL ?_); first
  | refine lC [] [] []
  | fail)
  | fail

theorem nat_at.holds (l0 : List Int) (a1 : Int) (r : Int) (h : nat_at.f l0 a1 = some r) : Holds Tryz.prog (G0 0) 183 [] [.sl 1 (.int .u32 0) (l0.map (AV.int .u32)), .int .i64 a1] (.int .u32 r) [] := by
 refine holds_of_sim (fun (r : Int) => ⟨.int .u32 r, [], fun _ => True⟩) h Tryz.func183 rfl (by kernel_rfl) 13 rfl (by simp) (by simp) [(0, .sl 1 (.int .u32 0) (l0.map (AV.int .u32))), (1, .int .i64 a1)] rfl [] rfl [.tmp 4] rfl ?_
 clear h
 unfold nat_at.f
 refine sim_mk ?_
 repeat' first
  | ((with_reducible refine gS ?_); first
  | with_reducible refine sim_seq ?_
  | with_reducible refine sim_skip ?_
  | refine sR (h := ?_)
  | refine sY (h := ?_)
  | refine sN (h := ?_)
  | refine sF [] false
  | fail)
  | ((with_reducible refine gO ?_); first
  | with_reducible exact simB_none
  | ((with_reducible refine oGi ?_); first | refine oT (h := ?_) | refine oF' (h := ?_) | refine oI (fun hb hc => ?_) (fun hb hc => ?_))
  | refine oNil (h := ?_)
  | refine oV (h := ?_)
  | fail)
  | fail

theorem nat_Sub.holds (k : Nat) (l0 : List Int) (l1 : List Int) (r : List Int × Bool) (h : nat_Sub.f k l0 l1 = some r) : Holds Tryz.prog (G0 0) 162 [] [.sl 1 (.int .u32 0) (l0.map (AV.int .u32)), .sl 1 (.int .u32 0) (l1.map (AV.int .u32))] (.tup [.own 0 0 r.1.length, .bool r.2]) [⟨84, 1, (.int .u32 0), r.1.map (AV.int .u32)⟩] := by
 refine holds_of_sim (fun (r : List Int × Bool) => ⟨.tup [.own 0 0 r.1.length, .bool r.2], [⟨84, 1, (.int .u32 0), r.1.map (AV.int .u32)⟩], fun _ => True⟩) h Tryz.func162 rfl (by kernel_rfl) 38 rfl (by simp) (by simp) [(0, .sl 1 (.int .u32 0) (l0.map (AV.int .u32))), (1, .sl 1 (.int .u32 0) (l1.map (AV.int .u32)))] rfl [] rfl [.tmp 4, .tmp 5] rfl ?_
 clear h
 unfold nat_Sub.f
 refine sim_mk ?_
 repeat' first
  | ((with_reducible refine gS ?_); first
  | with_reducible refine sim_seq ?_
  | with_reducible refine sim_block ?_
  | with_reducible refine sim_skip ?_
  | with_reducible refine sim_inBlock ?_
  | refine sR (h := ?_)
  | refine sX (h := ?_)
  | refine sD (hm := by exact mixed) (h := ?_)
  | refine sY (h := ?_)
  | refine sN (h := ?_)
  | refine IHl0.out _ (_, _, _, _, _) _ (by omega) ?_
  | (refine sim_loop (fun k (x : List Int × List Int × Int × Int × Int) => match x with | (x1, x6, x7, x16, x17) => nat_Sub.l0 k x1 x6 x7 x16 x17) (fun x => mkS [(1, .sl 1 (.int .u32 0) (x.1.map (AV.int .u32))), (6, .own 1006 0 x.2.1.length), (7, .int .u32 x.2.2.1), (16, .int .i64 x.2.2.2.1), (17, .int .i64 x.2.2.2.2)] ([] ++ [1006]) [⟨84, 1, (.int .u32 0), x.2.1.map (AV.int .u32)⟩]) _ (fun ⟨_, _, _, _, _⟩ => rfl) (fun k hkl0 IH x => ?_) ((_, _, _, _, _)) ?_; obtain ⟨x1, x6, x7, x16, x17⟩ := x; simp only [nat_Sub.l0]; have IHl0 := Hid.mk IH; clear IH; refine sim_mk ?_)
  | refine sF [] true
  | refine sNil 4 3004 ⟨84, 1, (.int .u32 0), []⟩ (h := ?_)
  | fail)
  | ((with_reducible refine gO ?_); first
  | with_reducible exact simB_none
  | ((with_reducible refine oGi ?_); first | refine oT (h := ?_) | refine oF' (h := ?_) | refine oI (fun hb hc => ?_) (fun hb hc => ?_))
  | refine oNil (h := ?_)
  | ((with_reducible refine gC ?_); first
   | refine oC true (hh := fun t ht => nat_Cmp.holds _ _ _ t ht) (h := fun t => ?_)
   | refine oC true (hh := fun t ht => nat_Trim.holds _ _ t ht) (h := fun t => ?_)
   | refine oC true (hh := fun t ht => bits_Sub32.holds _ _ _ t ht) (h := fun t => ?_)
   | refine oC true (hh := fun t ht => nat_at.holds _ _ t ht) (h := fun t => ?_)
   | fail)
  | refine oV (h := ?_)
  | refine oS (h := ?_)
  | fail)
  | ((with_reducible refine gL ?_); first
  | refine lC [] [6] [1006]
  | fail)
  | fail

theorem nat_Bits.holds (k : Nat) (l0 : List Int) (r : Int) (h : nat_Bits.f k l0 = some r) : Holds Tryz.prog (G0 0) 169 [] [.sl 1 (.int .u32 0) (l0.map (AV.int .u32))] (.int .i64 r) [] := by
 refine holds_of_sim (fun (r : Int) => ⟨.int .i64 r, [], fun _ => True⟩) h Tryz.func169 rfl (by kernel_rfl) 18 rfl (by simp) (by simp) [(0, .sl 1 (.int .u32 0) (l0.map (AV.int .u32)))] rfl [] rfl [.tmp 2] rfl ?_
 clear h
 unfold nat_Bits.f
 refine sim_mk ?_
 repeat' first
  | ((with_reducible refine gS ?_); first
  | with_reducible refine sim_seq ?_
  | with_reducible refine sim_skip ?_
  | refine sR (h := ?_)
  | refine sY (h := ?_)
  | refine sN (h := ?_)
  | refine sF [] false
  | fail)
  | ((with_reducible refine gO ?_); first
  | with_reducible exact simB_none
  | ((with_reducible refine oGi ?_); first | refine oT (h := ?_) | refine oF' (h := ?_) | refine oI (fun hb hc => ?_) (fun hb hc => ?_))
  | refine oNil (h := ?_)
  | ((with_reducible refine gC ?_); first
   | refine oC true (hh := fun t ht => nat_used.holds _ _ t ht) (h := fun t => ?_)
   | refine oC true (hh := fun t ht => bits_Len32.holds _ t ht) (h := fun t => ?_)
   | fail)
  | refine oV (h := ?_)
  | fail)
  | fail

theorem nat_Bit.holds (l0 : List Int) (a1 : Int) (r : Bool) (h : nat_Bit.f l0 a1 = some r) : Holds Tryz.prog (G0 0) 170 [] [.sl 1 (.int .u32 0) (l0.map (AV.int .u32)), .int .i64 a1] (.bool r) [] := by
 refine holds_of_sim (fun (r : Bool) => ⟨.bool r, [], fun _ => True⟩) h Tryz.func170 rfl (by kernel_rfl) 26 rfl (by simp) (by simp) [(0, .sl 1 (.int .u32 0) (l0.map (AV.int .u32))), (1, .int .i64 a1)] rfl [] rfl [.tmp 4] rfl ?_
 clear h
 unfold nat_Bit.f
 refine sim_mk ?_
 repeat' first
  | ((with_reducible refine gS ?_); first
  | with_reducible refine sim_seq ?_
  | refine sR (h := ?_)
  | refine sF [] false
  | fail)
  | ((with_reducible refine gO ?_); first
  | with_reducible exact simB_none
  | ((with_reducible refine oGi ?_); first | refine oT (h := ?_) | refine oF' (h := ?_) | refine oI (fun hb hc => ?_) (fun hb hc => ?_))
  | refine oNil (h := ?_)
  | refine oV (h := ?_)
  | refine oVg (h := ?_)
  | refine oKg (h := ?_)
  | fail)
  | fail

end Go.Proofs.YtpchdjdochkjpaaGreatDoor.P

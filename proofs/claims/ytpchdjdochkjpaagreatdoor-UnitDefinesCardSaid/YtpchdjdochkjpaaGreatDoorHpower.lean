/- Contracts: each Go function of a package comes to its plain function. -/
import Derived.Test.YtpchdjdochkjpaaGreatDoorMc
import Derived.Test.YtpchdjdochkjpaaGreatDoorMx
import Derived.Test.YtpchdjdochkjpaaGreatDoorHrat
import Derived.Test.YtpchdjdochkjpaaGreatDoorHm
set_option linter.unusedVariables false
set_option linter.unusedSimpArgs false
set_option maxRecDepth 100000
set_option maxHeartbeats 8000000
namespace Go.Proofs.YtpchdjdochkjpaaGreatDoor.P
open Go Go.RowKit Go.Proofs.YtpchdjdochkjpaaGreatDoor.Am Go.Proofs.YtpchdjdochkjpaaGreatDoorW.PrintWords Go.Proofs.YtpchdjdochkjpaaGreatDoorW.PrintMore
attribute [local irreducible] cpy rd bt strOfNums ByteArray.extract
theorem power_within.holds (a0 : Int) (a1 : Int) (r : Bool) (h : power_within.f a0 a1 = some r) : Holds Tryz.prog (G0 0) 136 [] [.int .i64 a0, .int .i64 a1] (.bool r) [] := by
 refine holds_of_sim (fun (r : Bool) => ⟨.bool r, [], fun _ => True⟩) h Tryz.func136 rfl (by kernel_rfl) 14 rfl (by simp) (by simp) [(0, .int .i64 a0), (1, .int .i64 a1)] rfl [] rfl [.tmp 4] rfl ?_
 clear h
 unfold power_within.f
 refine sim_mk ?_
 repeat' first
  | ((with_reducible refine gS ?_); first
   | with_reducible refine sim_seq ?_
   | refine sR (h := ?_)
   | refine sF [] false
   | fail)
  | ((with_reducible refine gO ?_); first
   | ((with_reducible refine oGi ?_); first | refine oT (h := ?_) | refine oF' (h := ?_) | refine oI (fun hb hc => ?_) (fun hb hc => ?_))
   | refine oNil (h := ?_)
   | refine oV (h := ?_)
   | refine oVg (h := ?_)
   | refine oKg (h := ?_)
   | fail)
  | fail

theorem power_turned.holds (k : Nat) (a0_0 : Bool) (l0_1 : List Int) (l0_2 : List Int) (r : Bool × List Int × List Int × Int) (h : power_turned.f k a0_0 l0_1 l0_2 = some r) : Holds Tryz.prog (G0 0) 137 [] [.agg [.bool a0_0, .sl 1 (.int .u32 0) (l0_1.map (AV.int .u32)), .sl 1 (.int .u32 0) (l0_2.map (AV.int .u32))]] (.tup [.agg [.bool r.1, .sl 1 (.int .u32 0) (r.2.1.map (AV.int .u32)), .sl 1 (.int .u32 0) (r.2.2.1.map (AV.int .u32))], .int .i64 r.2.2.2]) [] := by
 refine holds_of_sim (fun (r : Bool × List Int × List Int × Int) => ⟨.tup [.agg [.bool r.1, .sl 1 (.int .u32 0) (r.2.1.map (AV.int .u32)), .sl 1 (.int .u32 0) (r.2.2.1.map (AV.int .u32))], .int .i64 r.2.2.2], [], fun _ => True⟩) h Tryz.func137 rfl (by kernel_rfl) 9 rfl (by simp) (by simp) [(0, .agg [.bool a0_0, .sl 1 (.int .u32 0) (l0_1.map (AV.int .u32)), .sl 1 (.int .u32 0) (l0_2.map (AV.int .u32))])] rfl [] rfl [.cell 2 33, .tmp 3] rfl ?_
 clear h
 unfold power_turned.f
 refine sim_mk ?_
 repeat' first
  | ((with_reducible refine gS ?_); first
   | with_reducible refine sim_seq ?_
   | refine sR (h := ?_)
   | refine sD (hm := by exact mixed) (h := ?_)
   | refine sF [] false
   | fail)
  | ((with_reducible refine gO ?_); first
   | refine oNil (h := ?_)
   | ((with_reducible refine gC ?_); first
    | refine oC false (hh := fun t ht => rat_Whole.holds _ _ t ht) (h := fun t => ?_)
    | refine oC false (hh := fun t ht => rat_Div.holds _ _ _ _ _ _ _ t ht) (h := fun t => ?_)
    | fail)
   | refine oV (h := ?_)
   | refine oS (h := ?_)
   | refine oN (h := ?_)
   | fail)
  | fail

theorem power_Of.holds : ∀ (k : Nat) (a0_0 : Bool) (l0_1 : List Int) (l0_2 : List Int) (a1 : Int) (r : Bool × List Int × List Int × Int) (h : power_Of.f k a0_0 l0_1 l0_2 a1 = some r), Holds Tryz.prog (G0 0) 110 [] [.agg [.bool a0_0, .sl 1 (.int .u32 0) (l0_1.map (AV.int .u32)), .sl 1 (.int .u32 0) (l0_2.map (AV.int .u32))], .int .i64 a1] (.tup [.agg [.bool r.1, .sl 1 (.int .u32 0) (r.2.1.map (AV.int .u32)), .sl 1 (.int .u32 0) (r.2.2.1.map (AV.int .u32))], .int .i64 r.2.2.2]) [] := by
 intro k
 induction k with
 | zero => intro a0_0 l0_1 l0_2 a1 r h; simp [power_Of.f] at h
 | succ k IHs0 =>
 have IHs := Hid.mk IHs0
 clear IHs0
 intro a0_0 l0_1 l0_2 a1 r h
 refine holds_of_sim (fun (r : Bool × List Int × List Int × Int) => ⟨.tup [.agg [.bool r.1, .sl 1 (.int .u32 0) (r.2.1.map (AV.int .u32)), .sl 1 (.int .u32 0) (r.2.2.1.map (AV.int .u32))], .int .i64 r.2.2.2], [], fun _ => True⟩) h Tryz.func110 rfl (by kernel_rfl) 87 rfl (by simp) (by simp) [(0, .agg [.bool a0_0, .sl 1 (.int .u32 0) (l0_1.map (AV.int .u32)), .sl 1 (.int .u32 0) (l0_2.map (AV.int .u32))]), (1, .int .i64 a1)] rfl [] rfl [.cell 4 33, .tmp 5] rfl ?_
 clear h
 simp only [power_Of.f]
 refine sim_mk ?_
 repeat' first
  | ((with_reducible refine gS ?_); first
   | with_reducible refine sim_seq ?_
   | with_reducible refine sim_block ?_
   | with_reducible refine sim_skip ?_
   | with_reducible refine sim_inBlock ?_
   | refine sR (h := ?_)
   | refine sY (h := ?_)
   | refine sN (h := ?_)
   | refine sF [] false
   | fail)
  | ((with_reducible refine gO ?_); first
   | with_reducible exact simB_none
   | ((with_reducible refine oGb ?_); refine oIb (fun hb => ?_) (fun hb => ?_))
   | ((with_reducible refine oGi ?_); first | refine oT (h := ?_) | refine oF' (h := ?_) | refine oI (fun hb hc => ?_) (fun hb hc => ?_))
   | with_reducible refine simB_let ?_
   | refine oNil (h := ?_)
   | ((with_reducible refine gC ?_); first
    | refine oC false (hh := fun t ht => rat_Whole.holds _ _ t ht) (h := fun t => ?_)
    | refine oC true (hh := fun t ht => rat_Good.holds _ _ _ _ t ht) (h := fun t => ?_)
    | refine oC false (hh := fun t ht => rat_Of.holds _ _ _ _ t ht) (h := fun t => ?_)
    | refine oC false (hh := fun t ht => IHs.out _ _ _ _ t ht) (h := fun t => ?_)
    | refine oC true (hh := fun t ht => power_within.holds _ _ t ht) (h := fun t => ?_)
    | refine oC false (hh := fun t ht => power_turned.holds _ _ _ _ t ht) (h := fun t => ?_)
    | refine oC true (hh := fun t ht => mul_Pow.holds _ _ _ t ht) (h := fun t => ?_)
    | fail)
   | refine oV (h := ?_)
   | refine oVg (h := ?_)
   | refine oKg (h := ?_)
   | refine oS (h := ?_)
   | refine oN (h := ?_)
   | fail)
  | fail

end Go.Proofs.YtpchdjdochkjpaaGreatDoor.P

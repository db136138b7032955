/- Contracts: each Go function of a package comes to its plain function. -/
import Derived.Test.YtpchdjdochkjpaaGreatDoorMc
import Derived.Test.YtpchdjdochkjpaaGreatDoorMx
set_option linter.unusedVariables false
set_option linter.unusedSimpArgs false
set_option maxRecDepth 100000
set_option maxHeartbeats 8000000
namespace Go.Proofs.YtpchdjdochkjpaaGreatDoor.P
open Go Go.RowKit Go.Proofs.YtpchdjdochkjpaaGreatDoor.Am Go.Proofs.YtpchdjdochkjpaaGreatDoorW.PrintWords Go.Proofs.YtpchdjdochkjpaaGreatDoorW.PrintMore
attribute [local irreducible] cpy rd bt strOfNums ByteArray.extract
theorem dim_Good.holds (d : Dm) (r : Bool) (h : dim_Good.f d = some r) : Holds Tryz.prog (G0 0) 59 [] [avD d] (.bool r) [] := by
 refine holds_of_sim (fun (r : Bool) => ⟨.bool r, [], fun _ => True⟩) h Tryz.func59 rfl (by kernel_rfl) 16 rfl (by simp) (by simp) [(0, avD d)] rfl [] rfl [.tmp 2] rfl ?_
 clear h
 unfold dim_Good.f
 refine sim_mk ?_
 repeat' first
  | ((with_reducible refine gS ?_); first
   | with_reducible refine sim_seq ?_
   | with_reducible refine sim_block ?_
   | with_reducible refine sim_skip ?_
   | with_reducible refine sim_inBlock ?_
   | refine sR (h := ?_)
   | refine sX (h := ?_)
   | refine sY (h := ?_)
   | refine sN (h := ?_)
   | refine sF [] false
   | refine sUn (h := ?_)
   | refine sUk [5, 6, 12, 13] (h := ?_)
   | fail)
  | ((with_reducible refine gO ?_); first
   | ((with_reducible refine oGi ?_); first | refine oT (h := ?_) | refine oF' (h := ?_) | refine oI (fun hb hc => ?_) (fun hb hc => ?_))
   | refine oNil (h := ?_)
   | refine oV (h := ?_)
   | refine oVg (h := ?_)
   | refine oKg (h := ?_)
   | refine oN (h := ?_)
   | fail)
  | fail

theorem dim_told.holds (d : Dm) (r : Dm × Int) (h : dim_told.f d = some r) : Holds Tryz.prog (G0 0) 60 [] [avD d] (.tup [avD r.1, .int .i64 r.2]) [] := by
 refine holds_of_sim (fun (r : Dm × Int) => ⟨.tup [avD r.1, .int .i64 r.2], [], fun _ => True⟩) h Tryz.func60 rfl (by kernel_rfl) 9 rfl (by simp) (by simp) [(0, avD d)] rfl [] rfl [.cell 2 35, .tmp 3] rfl ?_
 clear h
 unfold dim_told.f
 refine sim_mk ?_
 repeat' first
  | ((with_reducible refine gS ?_); first
   | with_reducible refine sim_seq ?_
   | with_reducible refine sim_skip ?_
   | refine sR (h := ?_)
   | refine sY (h := ?_)
   | refine sN (h := ?_)
   | refine sF [] false
   | fail)
  | ((with_reducible refine gO ?_); first
   | ((with_reducible refine oGb ?_); refine oIb (fun hb => ?_) (fun hb => ?_))
   | refine oNil (h := ?_)
   | ((with_reducible refine gC ?_); first
    | refine oC true (hh := fun t ht => dim_Good.holds _ t ht) (h := fun t => ?_)
    | fail)
   | refine oV (h := ?_)
   | refine oS (h := ?_)
   | refine oN (h := ?_)
   | fail)
  | fail

theorem dim_Pow.holds (a : Dm) (n : Int) (r : Dm × Int) (h : dim_Pow.f a n = some r) : Holds Tryz.prog (G0 0) 28 [] [avD a, .int .i64 n] (.tup [avD r.1, .int .i64 r.2]) [] := by
 refine holds_of_sim (fun (r : Dm × Int) => ⟨.tup [avD r.1, .int .i64 r.2], [], fun _ => True⟩) h Tryz.func28 rfl (by kernel_rfl) 39 rfl (by simp) (by simp) [(0, avD a), (1, .int .i64 n)] rfl [] rfl [.cell 4 35, .tmp 5] rfl ?_
 clear h
 unfold dim_Pow.f
 refine sim_mk ?_
 repeat' first
  | ((with_reducible refine gS ?_); first
   | with_reducible refine sim_seq ?_
   | with_reducible refine sim_block ?_
   | with_reducible refine sim_skip ?_
   | with_reducible refine sim_inBlock ?_
   | refine sR (h := ?_)
   | refine sX (h := ?_)
   | refine sY (h := ?_)
   | refine sN (h := ?_)
   | refine sF [] false
   | refine sUn (h := ?_)
   | refine sUk [1, 2, 4, 25] (h := ?_)
   | fail)
  | ((with_reducible refine gO ?_); first
   | ((with_reducible refine oGb ?_); refine oIb (fun hb => ?_) (fun hb => ?_))
   | ((with_reducible refine oGi ?_); first | refine oT (h := ?_) | refine oF' (h := ?_) | refine oI (fun hb hc => ?_) (fun hb hc => ?_))
   | refine oNil (h := ?_)
   | ((with_reducible refine gC ?_); first
    | refine oC true (hh := fun t ht => dim_Good.holds _ t ht) (h := fun t => ?_)
    | refine oC true (hh := fun t ht => dim_told.holds _ t ht) (h := fun t => ?_)
    | fail)
   | refine oV (h := ?_)
   | refine oVg (h := ?_)
   | refine oKg (h := ?_)
   | refine oS (h := ?_)
   | refine oN (h := ?_)
   | fail)
  | fail

theorem dim_Mul.holds (a b : Dm) (r : Dm × Int) (h : dim_Mul.f a b = some r) : Holds Tryz.prog (G0 0) 25 [] [avD a, avD b] (.tup [avD r.1, .int .i64 r.2]) [] := by
 refine holds_of_sim (fun (r : Dm × Int) => ⟨.tup [avD r.1, .int .i64 r.2], [], fun _ => True⟩) h Tryz.func25 rfl (by kernel_rfl) 32 rfl (by simp) (by simp) [(0, avD a), (1, avD b)] rfl [] rfl [.cell 4 35, .tmp 5] rfl ?_
 clear h
 unfold dim_Mul.f
 refine sim_mk ?_
 repeat' first
  | ((with_reducible refine gS ?_); first
   | with_reducible refine sim_seq ?_
   | with_reducible refine sim_block ?_
   | with_reducible refine sim_skip ?_
   | with_reducible refine sim_inBlock ?_
   | refine sR (h := ?_)
   | refine sX (h := ?_)
   | refine sD (hm := by exact mixed) (h := ?_)
   | refine sY (h := ?_)
   | refine sN (h := ?_)
   | refine sF [] false
   | refine sUn (h := ?_)
   | refine sUk [2, 3, 4, 16] (h := ?_)
   | fail)
  | ((with_reducible refine gO ?_); first
   | ((with_reducible refine oGb ?_); refine oIb (fun hb => ?_) (fun hb => ?_))
   | refine oNil (h := ?_)
   | ((with_reducible refine gC ?_); first
    | refine oC true (hh := fun t ht => dim_Good.holds _ t ht) (h := fun t => ?_)
    | refine oCg true (hh := fun t ht => dim_Good.holds _ t ht) (h := fun t => ?_)
    | refine oC true (hh := fun t ht => dim_told.holds _ t ht) (h := fun t => ?_)
    | fail)
   | refine oV (h := ?_)
   | refine oVg (h := ?_)
   | refine oKg (h := ?_)
   | refine oS (h := ?_)
   | refine oN (h := ?_)
   | fail)
  | fail

theorem dim_Div.holds (a b : Dm) (r : Dm × Int) (h : dim_Div.f a b = some r) : Holds Tryz.prog (G0 0) 112 [] [avD a, avD b] (.tup [avD r.1, .int .i64 r.2]) [] := by
 refine holds_of_sim (fun (r : Dm × Int) => ⟨.tup [avD r.1, .int .i64 r.2], [], fun _ => True⟩) h Tryz.func112 rfl (by kernel_rfl) 32 rfl (by simp) (by simp) [(0, avD a), (1, avD b)] rfl [] rfl [.cell 4 35, .tmp 5] rfl ?_
 clear h
 unfold dim_Div.f
 refine sim_mk ?_
 repeat' first
  | ((with_reducible refine gS ?_); first
   | with_reducible refine sim_seq ?_
   | with_reducible refine sim_block ?_
   | with_reducible refine sim_skip ?_
   | with_reducible refine sim_inBlock ?_
   | refine sR (h := ?_)
   | refine sX (h := ?_)
   | refine sD (hm := by exact mixed) (h := ?_)
   | refine sY (h := ?_)
   | refine sN (h := ?_)
   | refine sF [] false
   | refine sUn (h := ?_)
   | refine sUk [2, 3, 4, 16] (h := ?_)
   | fail)
  | ((with_reducible refine gO ?_); first
   | ((with_reducible refine oGb ?_); refine oIb (fun hb => ?_) (fun hb => ?_))
   | refine oNil (h := ?_)
   | ((with_reducible refine gC ?_); first
    | refine oC true (hh := fun t ht => dim_Good.holds _ t ht) (h := fun t => ?_)
    | refine oCg true (hh := fun t ht => dim_Good.holds _ t ht) (h := fun t => ?_)
    | refine oC true (hh := fun t ht => dim_told.holds _ t ht) (h := fun t => ?_)
    | fail)
   | refine oV (h := ?_)
   | refine oVg (h := ?_)
   | refine oKg (h := ?_)
   | refine oS (h := ?_)
   | refine oN (h := ?_)
   | fail)
  | fail

end Go.Proofs.YtpchdjdochkjpaaGreatDoor.P

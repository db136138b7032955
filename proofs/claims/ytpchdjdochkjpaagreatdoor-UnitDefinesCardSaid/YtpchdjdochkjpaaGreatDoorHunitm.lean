/- Contracts: each Go function of a package comes to its plain function. -/
import Derived.Test.YtpchdjdochkjpaaGreatDoorMc
import Derived.Test.YtpchdjdochkjpaaGreatDoorMx
import Derived.Test.YtpchdjdochkjpaaGreatDoorHrat
import Derived.Test.YtpchdjdochkjpaaGreatDoorHdim
set_option linter.unusedVariables false
set_option linter.unusedSimpArgs false
set_option maxRecDepth 100000
set_option maxHeartbeats 8000000
namespace Go.Proofs.YtpchdjdochkjpaaGreatDoor.P
open Go Go.RowKit Go.Proofs.YtpchdjdochkjpaaGreatDoor.Am Go.Proofs.YtpchdjdochkjpaaGreatDoorW.PrintWords Go.Proofs.YtpchdjdochkjpaaGreatDoorW.PrintMore
attribute [local irreducible] cpy rd bt strOfNums ByteArray.extract
theorem unit_product.holds (k : Nat) (a b : Un) (over : Bool) (r : Un × Bool) (h : unit_product.f k a b over = some r) : Holds Tryz.prog (G0 0) 80 [] [avU a, avU b, .bool over] (.tup [avU r.1, .bool r.2]) [] := by
 refine holds_of_sim (fun (r : Un × Bool) => ⟨.tup [avU r.1, .bool r.2], [], fun _ => True⟩) h Tryz.func80 rfl (by kernel_rfl) 42 rfl (by simp) (by simp) [(0, avU a), (1, avU b), (2, .bool over)] rfl [] rfl [.cell 6 37, .tmp 7] rfl ?_
 clear h
 unfold unit_product.f
 refine sim_mk ?_
 repeat' first
  | ((with_reducible refine gS ?_); first
   | with_reducible refine sim_seq ?_
   | with_reducible refine sim_skip ?_
   | refine sR (h := ?_)
   | refine sY (h := ?_)
   | refine sN (h := ?_)
   | refine sF [] false
   | fail)
  | ((with_reducible refine gO ?_); first
   | ((with_reducible refine oGb ?_); refine oIb (fun hb => ?_) (fun hb => ?_))
   | ((with_reducible refine oGi ?_); first | refine oT (h := ?_) | refine oF' (h := ?_) | refine oI (fun hb hc => ?_) (fun hb hc => ?_))
   | refine oNil (h := ?_)
   | ((with_reducible refine gC ?_); first
    | refine oF false (hh := fun t ht => rat_Mul.holds _ _ _ _ _ _ _ t ht) (h := fun t => ?_)
    | refine oF false (hh := fun t ht => rat_Div.holds _ _ _ _ _ _ _ t ht) (h := fun t => ?_)
    | refine oF true (hh := fun t ht => dim_Mul.holds _ _ t ht) (h := fun t => ?_)
    | refine oF true (hh := fun t ht => dim_Div.holds _ _ t ht) (h := fun t => ?_)
    | fail)
   | refine oV (h := ?_)
   | refine oVg (h := ?_)
   | refine oKg (h := ?_)
   | refine oS (h := ?_)
   | refine oN (h := ?_)
   | fail)
  | fail

end Go.Proofs.YtpchdjdochkjpaaGreatDoor.P

/- Contracts: each Go function of a package comes to its plain function. -/
import Derived.Test.YtjgmmaeafodpmaaGreatDoorMb
import Derived.Test.YtjgmmaeafodpmaaGreatDoorMx
import Derived.Test.YtjgmmaeafodpmaaGreatDoorHsteelyardlaw07
import Derived.Test.YtjgmmaeafodpmaaGreatDoorHenclose
import Derived.Test.YtjgmmaeafodpmaaGreatDoorHrat
import Derived.Test.YtjgmmaeafodpmaaGreatDoorHsteelyardkeep
set_option linter.unusedVariables false
set_option linter.unusedSimpArgs false
set_option maxRecDepth 100000
set_option maxHeartbeats 8000000
namespace Go.Proofs.YtjgmmaeafodpmaaGreatDoor.P
open Go Go.RowKit Go.Proofs.YtjgmmaeafodpmaaGreatDoor.Am Go.Proofs.YtjgmmaeafodpmaaGreatDoorW.PrintWords Go.Proofs.YtjgmmaeafodpmaaGreatDoorW.PrintMore
attribute [local irreducible] cpy rd bt strOfNums ByteArray.extract
theorem steelyardlaw25_wakes.holds {mx : Int} (k : Nat)  (r : Bool) (h : steelyardlaw25_wakes.f k = some r) : Holds Tryz.prog (G0 mx) 11 [] [] (.bool r) [] := by
  refine holds_of_sim (fun (r : Bool) => (.bool r, [])) h Tryz.func11 rfl (by kernel_rfl) 90 rfl (by simp) (by simp) [] rfl [] rfl [.tmp 0] rfl ?_
  clear h
  unfold steelyardlaw25_wakes.f
  refine sim_mk ?_
  repeat' first
   | ((with_reducible refine gS ?_); first
    | with_reducible refine sim_seq ?_
    | with_reducible refine sim_block ?_
    | with_reducible refine sim_skip ?_
    | with_reducible refine sim_inBlock ?_
    | with_reducible exact sim_none
    | refine sR (h := ?_)
    | refine sX (h := ?_)
    | refine sD (hm := by exact mixed) (h := ?_)
    | ((with_reducible refine sGb ?_); first | refine sTe (h := ?_) | refine sFd (h := ?_) | refine sTb (h := ?_) | refine sFb (h := ?_))
    | with_reducible refine sBd (fun hb hc => ?_) (fun hb hc => ?_) (fun hb hc => ?_) (fun hb hc => ?_)
    | ((with_reducible refine sGb ?_); refine sIb (fun hb => ?_) (fun hb => ?_))
    | ((with_reducible refine sGi ?_); first | refine sT (h := ?_) | refine sF' (h := ?_) | refine sI (fun hb hc => ?_) (fun hb hc => ?_))
    | with_reducible refine sim_let ?_
    | refine sY (h := ?_)
    | refine sN (h := ?_)
    | refine sF [] false
    | refine sFe [] false
    | fail)
   | ((with_reducible refine gO ?_); first
    | with_reducible exact simO_none
    | ((with_reducible refine oGb ?_); first | refine oTe (h := ?_) | refine oFd (h := ?_) | refine oTb (h := ?_) | refine oFb (h := ?_))
    | with_reducible refine oBd (fun hb hc => ?_) (fun hb hc => ?_) (fun hb hc => ?_) (fun hb hc => ?_)
    | ((with_reducible refine oGb ?_); refine oIb (fun hb => ?_) (fun hb => ?_))
    | ((with_reducible refine oGi ?_); first | refine oT (h := ?_) | refine oF' (h := ?_) | refine oI (fun hb hc => ?_) (fun hb hc => ?_))
    | with_reducible refine simO_let ?_
    | refine simO_nil ?_
    | ((with_reducible refine gC ?_); first
     | refine oC false (hh := fun t ht => enclose_Root.holds _ _ _ _ _ t ht) (h := fun t => ?_)
     | refine oC true (hh := fun t ht => enclose_Text.holds _ _ _ _ _ t ht) (h := fun t => ?_)
     | refine oCg true (hh := fun t ht => steelyardkeep_Rat.holds _ _ _ _ _ _ _ t ht) (h := fun t => ?_)
     | refine oC false (hh := fun t ht => steelyardlaw07_By.holds _ _ _ t ht) (h := fun t => ?_)
     | refine oCg false (hh := fun t ht => steelyardlaw07_By.holds _ _ _ t ht) (h := fun t => ?_)
     | refine oCg true (hh := fun t ht => rat_Sign.holds _ _ _ _ t ht) (h := fun t => ?_)
     | fail)
    | refine oV (h := ?_)
    | refine oVg (h := ?_)
    | refine oKg (h := ?_)
    | refine oKu (h := ?_)
    | refine oS (h := ?_)
    | refine oN (h := ?_)
    | refine oNg (h := ?_)
    | refine oA (h := ?_)
    | fail)
   | fail

end Go.Proofs.YtjgmmaeafodpmaaGreatDoor.P

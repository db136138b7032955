/- Each name's unit, by its text, to the power 2, with a prefix: all 92 names are looked at. -/
import Derived.Test.YtpchdjdochkjpaaGreatDoorLibV3
import Derived.Test.YtpchdjdochkjpaaGreatDoorPxlawUnitNames
import Derived.OpenShut
set_option linter.unusedVariables false
set_option linter.unusedSimpArgs false
namespace Go.Proofs.YtpchdjdochkjpaaGreatDoor.Pure
open Go.RowKit Go.Proofs.YtpchdjdochkjpaaGreatDoor.P Go.Proofs.YtpchdjdochkjpaaGreatDoorW.PrintWords Go.Proofs.YtpchdjdochkjpaaGreatDoorW.PrintMore Go.Proofs.YtpchdjdochkjpaaGreatDoor.Lib
theorem UnitNames : steelyardlaw12_UnitNames.Pure := by
  intro n q hn hq
  have hn : 0 ≤ n ∧ n < 65536 := by have := bounds_u16 hn; omega
  have hq : 0 ≤ q ∧ q < 65536 := by have := bounds_u16 hq; omega
  have hp : steelyardlaw12_UnitNames.p 200 n q T92 = some true := by
    have hi : n.toNat % 15 < bases.length := Nat.mod_lt _ (by decide)
    have hj : q.toNat % 5 < 5 := Nat.mod_lt _ (by decide)
    have hc := List.all_eq_true.1 chkp_all _ (List.getElem_mem hi)
    have hc := List.all_eq_true.1 hc ((q.toNat % 5 : Nat) : Int) (by
      have : q.toNat % 5 = 0 ∨ q.toNat % 5 = 1 ∨ q.toNat % 5 = 2 ∨ q.toNat % 5 = 3 ∨ q.toNat % 5 = 4 := by omega
      rcases this with h | h | h | h | h <;> rw [h] <;> simp)
    have hc : chkp 200 T92 bases[n.toNat % 15] ((q.toNat % 5 : Nat) : Int) = some true := by simpa using hc
    have hi' : n.toNat % 15 < 15 := hi
    exact p_of (tmod_nat hn 15) (tmod_nat hq 5) (by omega) (by omega) (by rw [Int.toNat_natCast]; exact List.getElem?_eq_getElem hi) hc wakes
  have hr : steelyardlaw12_UnitNames.r 200 n q T92 SN92 = some true := by
    have hi : n.toNat % 92 < SN92.length := by rw [len92]; exact Nat.mod_lt _ (by decide)
    have hc := List.all_eq_true.1 chk_all _ (List.getElem_mem hi)
    have hc : chk 200 T92 SN92[n.toNat % 92] = some true := by simpa using hc
    exact (r_of (i := ((n.toNat % 92 : Nat) : Int)) (by rw [len92]; exact tmod_nat hn 92) (by omega) (by rw [Int.toNat_natCast]; exact List.getElem?_eq_getElem hi) (by rw [len92]; decide) hc).trans hp
  refine ⟨292, ?_⟩
  unfold steelyardlaw12_UnitNames.f
  have hN : unit_Table_Names.f 292 none = some (T92, SN92) := by
    have h1 : unit_Table_Names.f 292 none = unit_Table_Names.f 292 (some T92) := by
      unfold unit_Table_Names.f
      rw [all_new (by decide), all_old]
    rw [h1, names_ok (by decide +kernel) (by decide +kernel), sort_all]
  rw [hN, Option.bind_some, if_pos (by rw [len92]; decide)]
  exact loop hr 91 1 rfl (Nat.le_refl _)
end Go.Proofs.YtpchdjdochkjpaaGreatDoor.Pure

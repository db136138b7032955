-- Written by a program of this session (wip/tool), turned from the kit's print. Lean checks it.
import Derived.Test.YthcnnkajnmnloaaPx0
import Derived.Test.YthcnnkajnmnloaaPxsteelyardlaw01
import Derived.Test.YthcnnkajnmnloaaPxnat
import Derived.Test.YthcnnkajnmnloaaPxsteelyardkeep
namespace Go.Proofs.Ythcnnkajnmnloaa.P
open Go.RowKit Go.Proofs.YthcnnkajnmnloaaW.PrintWords Go.Proofs.YthcnnkajnmnloaaW.PrintLast Go.Proofs.YthcnnkajnmnloaaW.PrintMore
attribute [local go_sem] max2_int min2_int max_two min_two max_three min_three max_four min_four   -- for this text's walks alone
set_option linter.unusedVariables false
set_option linter.unusedSimpArgs false

/-! ### steelyardlaw01_NatOrder: function 8 -/
mutual
def steelyardlaw01_NatOrder.j0 : Nat → List Int → List Int → List Int → Bool → Option (Bool)
  | 0, _, _, _, _ => none
  | k + 1, x0, x1, x2, x20 => if x20 = true then ((steelyardlaw01_wakes.f k).bind fun t673 => (some t673)) else ((nat_Cmp.f k x0 x1).bind fun t674 => ((nat_Cmp.f k x1 x2).bind fun t675 => ((nat_Cmp.f k x0 x2).bind fun t676 => (if t674 < (-1) then (steelyardlaw01_NatOrder.j1 k x0 x1 t674 true) else (if t674 > 1 then (steelyardlaw01_NatOrder.j1 k x0 x1 t674 true) else ((nat_Cmp.f k x1 x0).bind fun t677 => (if t677 = (wrap64 (-t674)) then (if t674 ≤ 0 then (if t675 ≤ 0 then (if t676 > 0 then (steelyardlaw01_NatOrder.j1 k x0 x1 t674 true) else (if t674 = 0 then (if t676 = t675 then ((nat_Trim.f k x0).bind fun t678 => ((nat_Trim.f k x1).bind fun t681 => ((steelyardkeep_Nat.f k t678 t681).bind fun t684 => (steelyardlaw01_NatOrder.j1 k x0 x1 t674 ((t674 == 0) != t684))))) else (steelyardlaw01_NatOrder.j1 k x0 x1 t674 true)) else ((nat_Trim.f k x0).bind fun t685 => ((nat_Trim.f k x1).bind fun t688 => ((steelyardkeep_Nat.f k t685 t688).bind fun t691 => (steelyardlaw01_NatOrder.j1 k x0 x1 t674 ((t674 == 0) != t691))))))) else (if t674 = 0 then (if t676 = t675 then ((nat_Trim.f k x0).bind fun t692 => ((nat_Trim.f k x1).bind fun t695 => ((steelyardkeep_Nat.f k t692 t695).bind fun t698 => (steelyardlaw01_NatOrder.j1 k x0 x1 t674 ((t674 == 0) != t698))))) else (steelyardlaw01_NatOrder.j1 k x0 x1 t674 true)) else ((nat_Trim.f k x0).bind fun t699 => ((nat_Trim.f k x1).bind fun t702 => ((steelyardkeep_Nat.f k t699 t702).bind fun t705 => (steelyardlaw01_NatOrder.j1 k x0 x1 t674 ((t674 == 0) != t705))))))) else (if t674 = 0 then (if t676 = t675 then ((nat_Trim.f k x0).bind fun t706 => ((nat_Trim.f k x1).bind fun t709 => ((steelyardkeep_Nat.f k t706 t709).bind fun t712 => (steelyardlaw01_NatOrder.j1 k x0 x1 t674 ((t674 == 0) != t712))))) else (steelyardlaw01_NatOrder.j1 k x0 x1 t674 true)) else ((nat_Trim.f k x0).bind fun t713 => ((nat_Trim.f k x1).bind fun t716 => ((steelyardkeep_Nat.f k t713 t716).bind fun t719 => (steelyardlaw01_NatOrder.j1 k x0 x1 t674 ((t674 == 0) != t719))))))) else (steelyardlaw01_NatOrder.j1 k x0 x1 t674 true))))))))
def steelyardlaw01_NatOrder.j1 : Nat → List Int → List Int → Int → Bool → Option (Bool)
  | 0, _, _, _, _ => none
  | k + 1, x0, x1, x7, x75 => if x75 = true then (none) else ((nat_Bits.f k x0).bind fun t720 => (if t720 > 0 then ((nat_Bit.f x0 (wrap64 (t720 - 1))).bind fun t721 => (if t721 = true then ((nat_Bit.f x0 t720).bind fun t722 => (if t722 = true then (steelyardlaw01_NatOrder.j2 k x0 x1 x7 true) else ((nat_Trim.f k x0).bind fun t723 => (steelyardlaw01_NatOrder.j2 k x0 x1 x7 ((t720 == 0) != ((t723.length : Int) == 0)))))) else (steelyardlaw01_NatOrder.j2 k x0 x1 x7 true))) else ((nat_Bit.f x0 t720).bind fun t726 => (if t726 = true then (steelyardlaw01_NatOrder.j2 k x0 x1 x7 true) else ((nat_Trim.f k x0).bind fun t727 => (steelyardlaw01_NatOrder.j2 k x0 x1 x7 ((t720 == 0) != ((t727.length : Int) == 0))))))))
def steelyardlaw01_NatOrder.j2 : Nat → List Int → List Int → Int → Bool → Option (Bool)
  | 0, _, _, _, _ => none
  | k + 1, x0, x1, x7, x100 => if x100 = true then (none) else ((nat_Bits.f k x0).bind fun t730 => ((nat_Bits.f k x1).bind fun t731 => (if t730 ≥ t731 then ((steelyardlaw01_wakes.f k).bind fun t732 => (some t732)) else (if x7 < 0 then ((steelyardlaw01_wakes.f k).bind fun t733 => (some t733)) else (none)))))
end
def steelyardlaw01_NatOrder.f (k : Nat) (l0 : List Int) (l1 : List Int) (l2 : List Int) : Option (Bool) := (steelyardlaw01_Long.f l0).bind fun t670 => (if t670 = true then (steelyardlaw01_NatOrder.j0 k l0 l1 l2 true) else ((steelyardlaw01_Long.f l1).bind fun t671 => (if t671 = true then (steelyardlaw01_NatOrder.j0 k l0 l1 l2 true) else ((steelyardlaw01_Long.f l2).bind fun t672 => (steelyardlaw01_NatOrder.j0 k l0 l1 l2 t672)))))
theorem steelyardlaw01_NatOrder.mono_l : ∀ k, (∀ y0 y1 y2 y3, LeO (steelyardlaw01_NatOrder.j0 k y0 y1 y2 y3) (steelyardlaw01_NatOrder.j0 (k + 1) y0 y1 y2 y3)) ∧ (∀ y0 y1 y2 y3, LeO (steelyardlaw01_NatOrder.j1 k y0 y1 y2 y3) (steelyardlaw01_NatOrder.j1 (k + 1) y0 y1 y2 y3)) ∧ (∀ y0 y1 y2 y3, LeO (steelyardlaw01_NatOrder.j2 k y0 y1 y2 y3) (steelyardlaw01_NatOrder.j2 (k + 1) y0 y1 y2 y3))
  | 0 => ⟨fun _ _ _ _ r h => by simp [steelyardlaw01_NatOrder.j0] at h, fun _ _ _ _ r h => by simp [steelyardlaw01_NatOrder.j1] at h, fun _ _ _ _ r h => by simp [steelyardlaw01_NatOrder.j2] at h⟩
  | k + 1 => by
    obtain ⟨ih0, ih1, ih2⟩ := steelyardlaw01_NatOrder.mono_l k
    refine ⟨?_, ?_, ?_⟩
    · intro y0 y1 y2 y3
      unfold steelyardlaw01_NatOrder.j0
      repeat' first
      | (with_reducible exact ih0 _ _ _ _)
      | (with_reducible exact ih1 _ _ _ _)
      | (with_reducible exact ih2 _ _ _ _)
      | (with_reducible exact nat_Bits.mono _ _)
      | (with_reducible exact nat_Cmp.mono _ _ _)
      | (with_reducible exact nat_Trim.mono _ _)
      | (with_reducible exact steelyardkeep_Nat.mono _ _ _)
      | (with_reducible exact steelyardlaw01_wakes.mono _)
      | (with_reducible exact LeO.refl _)
      | (with_reducible exact LeO.none _)
      | (with_reducible refine LeO.ite ?_ ?_)
      | (with_reducible refine LeO.bind ?_ (fun _ => ?_))
      | exact ih0 _ _ _ _
      | exact ih1 _ _ _ _
      | exact ih2 _ _ _ _
      | exact nat_Bits.mono _ _
      | exact nat_Cmp.mono _ _ _
      | exact nat_Trim.mono _ _
      | exact steelyardkeep_Nat.mono _ _ _
      | exact steelyardlaw01_wakes.mono _
      | exact LeO.none _
      | refine LeO.ite ?_ ?_
      | refine LeO.bind ?_ (fun _ => ?_)
    · intro y0 y1 y2 y3
      unfold steelyardlaw01_NatOrder.j1
      repeat' first
      | (with_reducible exact ih0 _ _ _ _)
      | (with_reducible exact ih1 _ _ _ _)
      | (with_reducible exact ih2 _ _ _ _)
      | (with_reducible exact nat_Bits.mono _ _)
      | (with_reducible exact nat_Cmp.mono _ _ _)
      | (with_reducible exact nat_Trim.mono _ _)
      | (with_reducible exact steelyardkeep_Nat.mono _ _ _)
      | (with_reducible exact steelyardlaw01_wakes.mono _)
      | (with_reducible exact LeO.refl _)
      | (with_reducible exact LeO.none _)
      | (with_reducible refine LeO.ite ?_ ?_)
      | (with_reducible refine LeO.bind ?_ (fun _ => ?_))
      | exact ih0 _ _ _ _
      | exact ih1 _ _ _ _
      | exact ih2 _ _ _ _
      | exact nat_Bits.mono _ _
      | exact nat_Cmp.mono _ _ _
      | exact nat_Trim.mono _ _
      | exact steelyardkeep_Nat.mono _ _ _
      | exact steelyardlaw01_wakes.mono _
      | exact LeO.none _
      | refine LeO.ite ?_ ?_
      | refine LeO.bind ?_ (fun _ => ?_)
    · intro y0 y1 y2 y3
      unfold steelyardlaw01_NatOrder.j2
      repeat' first
      | (with_reducible exact ih0 _ _ _ _)
      | (with_reducible exact ih1 _ _ _ _)
      | (with_reducible exact ih2 _ _ _ _)
      | (with_reducible exact nat_Bits.mono _ _)
      | (with_reducible exact nat_Cmp.mono _ _ _)
      | (with_reducible exact nat_Trim.mono _ _)
      | (with_reducible exact steelyardkeep_Nat.mono _ _ _)
      | (with_reducible exact steelyardlaw01_wakes.mono _)
      | (with_reducible exact LeO.refl _)
      | (with_reducible exact LeO.none _)
      | (with_reducible refine LeO.ite ?_ ?_)
      | (with_reducible refine LeO.bind ?_ (fun _ => ?_))
      | exact ih0 _ _ _ _
      | exact ih1 _ _ _ _
      | exact ih2 _ _ _ _
      | exact nat_Bits.mono _ _
      | exact nat_Cmp.mono _ _ _
      | exact nat_Trim.mono _ _
      | exact steelyardkeep_Nat.mono _ _ _
      | exact steelyardlaw01_wakes.mono _
      | exact LeO.none _
      | refine LeO.ite ?_ ?_
      | refine LeO.bind ?_ (fun _ => ?_)
theorem steelyardlaw01_NatOrder.mono : ∀ a0 a1 a2 k, LeO (steelyardlaw01_NatOrder.f k a0 a1 a2) (steelyardlaw01_NatOrder.f (k + 1) a0 a1 a2) := by
  intro a0 a1 a2 k
  obtain ⟨ih0, ih1, ih2⟩ := steelyardlaw01_NatOrder.mono_l k
  unfold steelyardlaw01_NatOrder.f
  repeat' first
      | (with_reducible exact ih0 _ _ _ _)
      | (with_reducible exact ih1 _ _ _ _)
      | (with_reducible exact ih2 _ _ _ _)
      | (with_reducible exact nat_Bits.mono _ _)
      | (with_reducible exact nat_Cmp.mono _ _ _)
      | (with_reducible exact nat_Trim.mono _ _)
      | (with_reducible exact steelyardkeep_Nat.mono _ _ _)
      | (with_reducible exact steelyardlaw01_wakes.mono _)
      | (with_reducible exact LeO.refl _)
      | (with_reducible exact LeO.none _)
      | (with_reducible refine LeO.ite ?_ ?_)
      | (with_reducible refine LeO.bind ?_ (fun _ => ?_))
      | exact ih0 _ _ _ _
      | exact ih1 _ _ _ _
      | exact ih2 _ _ _ _
      | exact nat_Bits.mono _ _
      | exact nat_Cmp.mono _ _ _
      | exact nat_Trim.mono _ _
      | exact steelyardkeep_Nat.mono _ _ _
      | exact steelyardlaw01_wakes.mono _
      | exact LeO.none _
      | refine LeO.ite ?_ ?_
      | refine LeO.bind ?_ (fun _ => ?_)
set_option maxHeartbeats 8000000 in
set_option maxRecDepth 100000 in
theorem steelyardlaw01_NatOrder.calls (k : Nat) (A0 : Option Addr) (c0 : Nat) (l0 : List Int) (A1 : Option Addr) (c1 : Nat) (l1 : List Int) (A2 : Option Addr) (c2 : Nat) (l2 : List Int) (r : Bool) (w : World) (hr0 : Kd.C (Kd.int .u32) w A0 l0.length l0) (hc0 : l0.length ≤ c0) (hr1 : Kd.C (Kd.int .u32) w A1 l1.length l1) (hc1 : l1.length ≤ c1) (hr2 : Kd.C (Kd.int .u32) w A2 l2.length l2) (hc2 : l2.length ≤ c2) (h : steelyardlaw01_NatOrder.f k l0 l1 l2 = some r) :
    Calls Try.prog 8 #[.slice A0 l0.length c0, .slice A1 l1.length c1, .slice A2 l2.length c2] w fun e w' => e = .returned (.bool r) ∧ Below w.heap.size w w' := by
  have HR0 := Aside0.mk hr0
  have HC0 := Aside0.mk hc0
  clear hr0 hc0
  have HR1 := Aside0.mk hr1
  have HC1 := Aside0.mk hc1
  clear hr1 hc1
  have HR2 := Aside0.mk hr2
  have HC2 := Aside0.mk hc2
  clear hr2 hc2
  have HB := Aside0.mk (Below.refl w.heap.size w)
  have H : ((steelyardlaw01_Long.f l0).bind fun t670 => (if t670 = true then (steelyardlaw01_NatOrder.j0 k l0 l1 l2 true) else ((steelyardlaw01_Long.f l1).bind fun t671 => (if t671 = true then (steelyardlaw01_NatOrder.j0 k l0 l1 l2 true) else ((steelyardlaw01_Long.f l2).bind fun t672 => (steelyardlaw01_NatOrder.j0 k l0 l1 l2 t672)))))) = some r := h
  clear h
  have HC4 := Aside0.mk H
  clear H
  go_enter Try.func8, Try.ntmps8
  go_upto_region 1 with (fail)
  go_cut [20] (fun v20 wc => ∃ (kq : Nat) (x20_3 : Bool), v20 = .bool x20_3 ∧ Aside0 (steelyardlaw01_NatOrder.j0 kq l0 l1 l2 x20_3 = some r) ∧ Aside0 (kq ≤ k) ∧ Aside0 (Below w.heap.size w wc))
  case first =>
    have H := HC4.out
    clear HC4
    replace H := Option.bind_eq_some_iff.mp H
    obtain ⟨t670, A50, H⟩ := H
    replace H : (if t670 = true then (steelyardlaw01_NatOrder.j0 k l0 l1 l2 true) else ((steelyardlaw01_Long.f l1).bind fun t671 => (if t671 = true then (steelyardlaw01_NatOrder.j0 k l0 l1 l2 true) else ((steelyardlaw01_Long.f l2).bind fun t672 => (steelyardlaw01_NatOrder.j0 k l0 l1 l2 t672))))) = some r := H
    have A5 := Aside0.mk A50
    clear A50
    by_cases c6 : t670 = true
    · subst c6
      have H1 : (steelyardlaw01_NatOrder.j0 k l0 l1 l2 true) = some r := by rw [if_pos rfl] at H; exact H
      clear H
      have H := H1
      clear H1
      have H' := Aside0.mk H
      clear H
      go_wp2_with (first | ((with_reducible refine gate_callee (f := 12) rfl ?_); refine goesL_ (some 12) rfl rfl Try.func12 (by kernel_rfl) rfl #[.slice A0 l0.length c0] rfl (by (try simp only [List.map_toArray, List.map_cons, List.map_nil]); first | done | rfl | (simp only [List.length_drop, List.length_take]; rfl)) ?_; (with_reducible refine (steelyardlaw01_Long.calls _ _ l0 true _ ?side1 ?side2 A5.out).mono ?_); (case side1 => repeat (first | exact (Kd.C_below HR0.out HB.out) | (with_reducible refine Kd.C_alloc ?_ _) | (with_reducible refine Kd.C_drewN ?_ _) | (with_reducible refine Kd.C_drew ?_))); (case side2 => exact HC0.out); rintro e w' ⟨rfl, ⟨nd, rfl⟩⟩; refine ⟨_, rfl, ?_⟩))
      go_meet
      case rel => exact ⟨_, (true), (by first | rfl | (simp; done) | (simp [*]; done)), H', ⟨by first | omega | exact Nat.le_refl _⟩, ⟨by repeat (first | (with_reducible first | exact HB.out | apply below_alloc | apply pw_below_drewN | apply below_drew1) | exact HB.out)⟩⟩
    · replace c6 := Bool.eq_false_iff.mpr c6
      subst c6
      have H1 : ((steelyardlaw01_Long.f l1).bind fun t671 => (if t671 = true then (steelyardlaw01_NatOrder.j0 k l0 l1 l2 true) else ((steelyardlaw01_Long.f l2).bind fun t672 => (steelyardlaw01_NatOrder.j0 k l0 l1 l2 t672)))) = some r := by rw [if_neg (show ¬ (false = true) by decide)] at H; exact H
      clear H
      have H := H1
      clear H1
      replace H := Option.bind_eq_some_iff.mp H
      obtain ⟨t671, A70, H⟩ := H
      replace H : (if t671 = true then (steelyardlaw01_NatOrder.j0 k l0 l1 l2 true) else ((steelyardlaw01_Long.f l2).bind fun t672 => (steelyardlaw01_NatOrder.j0 k l0 l1 l2 t672))) = some r := H
      have A7 := Aside0.mk A70
      clear A70
      by_cases c8 : t671 = true
      · subst c8
        have H1 : (steelyardlaw01_NatOrder.j0 k l0 l1 l2 true) = some r := by rw [if_pos rfl] at H; exact H
        clear H
        have H := H1
        clear H1
        have H' := Aside0.mk H
        clear H
        go_wp2_with (first | ((with_reducible refine gate_callee (f := 12) rfl ?_); refine goesL_ (some 12) rfl rfl Try.func12 (by kernel_rfl) rfl #[.slice A0 l0.length c0] rfl (by (try simp only [List.map_toArray, List.map_cons, List.map_nil]); first | done | rfl | (simp only [List.length_drop, List.length_take]; rfl)) ?_; (with_reducible refine (steelyardlaw01_Long.calls _ _ l0 false _ ?side1 ?side2 A5.out).mono ?_); (case side1 => repeat (first | exact (Kd.C_below HR0.out HB.out) | (with_reducible refine Kd.C_alloc ?_ _) | (with_reducible refine Kd.C_drewN ?_ _) | (with_reducible refine Kd.C_drew ?_))); (case side2 => exact HC0.out); rintro e w' ⟨rfl, ⟨nd, rfl⟩⟩; refine ⟨_, rfl, ?_⟩) | (go_at_call 12; (with_reducible refine (steelyardlaw01_Long.calls _ _ l1 true _ ?side1 ?side2 A7.out).mono ?_); (case side1 => repeat (first | exact (Kd.C_below HR1.out (by repeat (first | (with_reducible first | exact HB.out | apply below_alloc | apply pw_below_drewN | apply below_drew1) | exact HB.out))) | (with_reducible refine Kd.C_alloc ?_ _) | (with_reducible refine Kd.C_drewN ?_ _) | (with_reducible refine Kd.C_drew ?_))); (case side2 => exact HC1.out); clear A7; rintro e w' ⟨rfl, ⟨nd, rfl⟩⟩))
        go_meet
        case rel => exact ⟨_, (true), (by first | rfl | (simp; done) | (simp [*]; done)), H', ⟨by first | omega | exact Nat.le_refl _⟩, ⟨by repeat (first | (with_reducible first | exact HB.out | apply below_alloc | apply pw_below_drewN | apply below_drew1) | exact HB.out)⟩⟩
      · replace c8 := Bool.eq_false_iff.mpr c8
        subst c8
        have H1 : ((steelyardlaw01_Long.f l2).bind fun t672 => (steelyardlaw01_NatOrder.j0 k l0 l1 l2 t672)) = some r := by rw [if_neg (show ¬ (false = true) by decide)] at H; exact H
        clear H
        have H := H1
        clear H1
        replace H := Option.bind_eq_some_iff.mp H
        obtain ⟨t672, A90, H⟩ := H
        replace H : (steelyardlaw01_NatOrder.j0 k l0 l1 l2 t672) = some r := H
        have A9 := Aside0.mk A90
        clear A90
        have H' := Aside0.mk H
        clear H
        go_wp2_with (first | ((with_reducible refine gate_callee (f := 12) rfl ?_); refine goesL_ (some 12) rfl rfl Try.func12 (by kernel_rfl) rfl #[.slice A0 l0.length c0] rfl (by (try simp only [List.map_toArray, List.map_cons, List.map_nil]); first | done | rfl | (simp only [List.length_drop, List.length_take]; rfl)) ?_; (with_reducible refine (steelyardlaw01_Long.calls _ _ l0 false _ ?side1 ?side2 A5.out).mono ?_); (case side1 => repeat (first | exact (Kd.C_below HR0.out HB.out) | (with_reducible refine Kd.C_alloc ?_ _) | (with_reducible refine Kd.C_drewN ?_ _) | (with_reducible refine Kd.C_drew ?_))); (case side2 => exact HC0.out); rintro e w' ⟨rfl, ⟨nd, rfl⟩⟩; refine ⟨_, rfl, ?_⟩) | (go_at_call 12; (with_reducible refine (steelyardlaw01_Long.calls _ _ l1 false _ ?side1 ?side2 A7.out).mono ?_); (case side1 => repeat (first | exact (Kd.C_below HR1.out (by repeat (first | (with_reducible first | exact HB.out | apply below_alloc | apply pw_below_drewN | apply below_drew1) | exact HB.out))) | (with_reducible refine Kd.C_alloc ?_ _) | (with_reducible refine Kd.C_drewN ?_ _) | (with_reducible refine Kd.C_drew ?_))); (case side2 => exact HC1.out); clear A7; rintro e w' ⟨rfl, ⟨nd, rfl⟩⟩) | (go_at_call 12; (with_reducible refine (steelyardlaw01_Long.calls _ _ l2 t672 _ ?side1 ?side2 A9.out).mono ?_); (case side1 => repeat (first | exact (Kd.C_below HR2.out (by repeat (first | (with_reducible first | exact HB.out | apply below_alloc | apply pw_below_drewN | apply below_drew1) | exact HB.out))) | (with_reducible refine Kd.C_alloc ?_ _) | (with_reducible refine Kd.C_drewN ?_ _) | (with_reducible refine Kd.C_drew ?_))); (case side2 => exact HC2.out); clear A9; rintro e w' ⟨rfl, ⟨nd, rfl⟩⟩))
        go_meet
        case rel => exact ⟨_, (t672), (by first | rfl | (simp; done) | (simp [*]; done)), H', ⟨by first | omega | exact Nat.le_refl _⟩, ⟨by repeat (first | (with_reducible first | exact HB.out | apply below_alloc | apply pw_below_drewN | apply below_drew1) | exact HB.out)⟩⟩
  case rest =>
    clear HC4
    try clear c1
    try clear c2
    try clear p2
    try clear c6
    try clear c8
    obtain ⟨kq, x20_3, rfl, HA, HJ3, HB⟩ := hcut
    cases kq with
    | zero => exact absurd HA.out (by simp [steelyardlaw01_NatOrder.j0])
    | succ kj3 =>
      have H := HA.out
      clear HA
      simp only [steelyardlaw01_NatOrder.j0] at H
      by_cases c10 : x20_3 = true
      · subst c10
        have H1 : ((steelyardlaw01_wakes.f kj3).bind fun t673 => (some t673)) = some r := by rw [if_pos rfl] at H; exact H
        clear H
        have H := H1
        clear H1
        replace H := Option.bind_eq_some_iff.mp H
        obtain ⟨t673, A110, H⟩ := H
        replace H : (some t673) = some r := H
        have A11 := Aside0.mk A110
        clear A110
        obtain rfl := Option.some.inj H
        go_wp2_with (first | ((with_reducible refine gate_callee (f := 28) rfl ?_); refine goesL_ (some 21) rfl rfl Try.func28 (by kernel_rfl) rfl #[] rfl (by (try simp only [List.map_toArray, List.map_cons, List.map_nil]); first | done | rfl | (simp only [List.length_drop, List.length_take]; rfl)) ?_; (with_reducible refine (steelyardlaw01_wakes.calls kj3  t673 _ A11.out).mono ?_); rintro e w12 ⟨rfl, hb⟩; refine ⟨_, rfl, ?_⟩; have n0_ := Aside0.mk (below_step (by repeat (first | (with_reducible first | exact HB.out | apply below_alloc | apply pw_below_drewN | apply below_drew1) | exact HB.out)) hb); clear HB; have HB := n0_; clear n0_; (try clear hb); (try clear hb2); (try clear hk); (try clear hi)))
        go_ret
        exact ⟨by first | rfl | (simp [errW_none, errW_some] <;> rfl) | (simp [*, errW_none, errW_some] <;> rfl), by repeat (first | (with_reducible first | exact HB.out | apply below_alloc | apply pw_below_drewN | apply below_drew1) | exact HB.out)⟩
      · replace c10 := Bool.eq_false_iff.mpr c10
        subst c10
        have H1 : ((nat_Cmp.f kj3 l0 l1).bind fun t674 => ((nat_Cmp.f kj3 l1 l2).bind fun t675 => ((nat_Cmp.f kj3 l0 l2).bind fun t676 => (if t674 < (-1) then (steelyardlaw01_NatOrder.j1 kj3 l0 l1 t674 true) else (if t674 > 1 then (steelyardlaw01_NatOrder.j1 kj3 l0 l1 t674 true) else ((nat_Cmp.f kj3 l1 l0).bind fun t677 => (if t677 = (wrap64 (-t674)) then (if t674 ≤ 0 then (if t675 ≤ 0 then (if t676 > 0 then (steelyardlaw01_NatOrder.j1 kj3 l0 l1 t674 true) else (if t674 = 0 then (if t676 = t675 then ((nat_Trim.f kj3 l0).bind fun t678 => ((nat_Trim.f kj3 l1).bind fun t681 => ((steelyardkeep_Nat.f kj3 t678 t681).bind fun t684 => (steelyardlaw01_NatOrder.j1 kj3 l0 l1 t674 ((t674 == 0) != t684))))) else (steelyardlaw01_NatOrder.j1 kj3 l0 l1 t674 true)) else ((nat_Trim.f kj3 l0).bind fun t685 => ((nat_Trim.f kj3 l1).bind fun t688 => ((steelyardkeep_Nat.f kj3 t685 t688).bind fun t691 => (steelyardlaw01_NatOrder.j1 kj3 l0 l1 t674 ((t674 == 0) != t691))))))) else (if t674 = 0 then (if t676 = t675 then ((nat_Trim.f kj3 l0).bind fun t692 => ((nat_Trim.f kj3 l1).bind fun t695 => ((steelyardkeep_Nat.f kj3 t692 t695).bind fun t698 => (steelyardlaw01_NatOrder.j1 kj3 l0 l1 t674 ((t674 == 0) != t698))))) else (steelyardlaw01_NatOrder.j1 kj3 l0 l1 t674 true)) else ((nat_Trim.f kj3 l0).bind fun t699 => ((nat_Trim.f kj3 l1).bind fun t702 => ((steelyardkeep_Nat.f kj3 t699 t702).bind fun t705 => (steelyardlaw01_NatOrder.j1 kj3 l0 l1 t674 ((t674 == 0) != t705))))))) else (if t674 = 0 then (if t676 = t675 then ((nat_Trim.f kj3 l0).bind fun t706 => ((nat_Trim.f kj3 l1).bind fun t709 => ((steelyardkeep_Nat.f kj3 t706 t709).bind fun t712 => (steelyardlaw01_NatOrder.j1 kj3 l0 l1 t674 ((t674 == 0) != t712))))) else (steelyardlaw01_NatOrder.j1 kj3 l0 l1 t674 true)) else ((nat_Trim.f kj3 l0).bind fun t713 => ((nat_Trim.f kj3 l1).bind fun t716 => ((steelyardkeep_Nat.f kj3 t713 t716).bind fun t719 => (steelyardlaw01_NatOrder.j1 kj3 l0 l1 t674 ((t674 == 0) != t719))))))) else (steelyardlaw01_NatOrder.j1 kj3 l0 l1 t674 true)))))))) = some r := by rw [if_neg (show ¬ (false = true) by decide)] at H; exact H
        clear H
        have H := H1
        clear H1
        replace H := Option.bind_eq_some_iff.mp H
        obtain ⟨t674, A130, H⟩ := H
        replace H : ((nat_Cmp.f kj3 l1 l2).bind fun t675 => ((nat_Cmp.f kj3 l0 l2).bind fun t676 => (if t674 < (-1) then (steelyardlaw01_NatOrder.j1 kj3 l0 l1 t674 true) else (if t674 > 1 then (steelyardlaw01_NatOrder.j1 kj3 l0 l1 t674 true) else ((nat_Cmp.f kj3 l1 l0).bind fun t677 => (if t677 = (wrap64 (-t674)) then (if t674 ≤ 0 then (if t675 ≤ 0 then (if t676 > 0 then (steelyardlaw01_NatOrder.j1 kj3 l0 l1 t674 true) else (if t674 = 0 then (if t676 = t675 then ((nat_Trim.f kj3 l0).bind fun t678 => ((nat_Trim.f kj3 l1).bind fun t681 => ((steelyardkeep_Nat.f kj3 t678 t681).bind fun t684 => (steelyardlaw01_NatOrder.j1 kj3 l0 l1 t674 ((t674 == 0) != t684))))) else (steelyardlaw01_NatOrder.j1 kj3 l0 l1 t674 true)) else ((nat_Trim.f kj3 l0).bind fun t685 => ((nat_Trim.f kj3 l1).bind fun t688 => ((steelyardkeep_Nat.f kj3 t685 t688).bind fun t691 => (steelyardlaw01_NatOrder.j1 kj3 l0 l1 t674 ((t674 == 0) != t691))))))) else (if t674 = 0 then (if t676 = t675 then ((nat_Trim.f kj3 l0).bind fun t692 => ((nat_Trim.f kj3 l1).bind fun t695 => ((steelyardkeep_Nat.f kj3 t692 t695).bind fun t698 => (steelyardlaw01_NatOrder.j1 kj3 l0 l1 t674 ((t674 == 0) != t698))))) else (steelyardlaw01_NatOrder.j1 kj3 l0 l1 t674 true)) else ((nat_Trim.f kj3 l0).bind fun t699 => ((nat_Trim.f kj3 l1).bind fun t702 => ((steelyardkeep_Nat.f kj3 t699 t702).bind fun t705 => (steelyardlaw01_NatOrder.j1 kj3 l0 l1 t674 ((t674 == 0) != t705))))))) else (if t674 = 0 then (if t676 = t675 then ((nat_Trim.f kj3 l0).bind fun t706 => ((nat_Trim.f kj3 l1).bind fun t709 => ((steelyardkeep_Nat.f kj3 t706 t709).bind fun t712 => (steelyardlaw01_NatOrder.j1 kj3 l0 l1 t674 ((t674 == 0) != t712))))) else (steelyardlaw01_NatOrder.j1 kj3 l0 l1 t674 true)) else ((nat_Trim.f kj3 l0).bind fun t713 => ((nat_Trim.f kj3 l1).bind fun t716 => ((steelyardkeep_Nat.f kj3 t713 t716).bind fun t719 => (steelyardlaw01_NatOrder.j1 kj3 l0 l1 t674 ((t674 == 0) != t719))))))) else (steelyardlaw01_NatOrder.j1 kj3 l0 l1 t674 true))))))) = some r := H
        have A13 := Aside0.mk A130
        clear A130
        replace H := Option.bind_eq_some_iff.mp H
        obtain ⟨t675, A140, H⟩ := H
        replace H : ((nat_Cmp.f kj3 l0 l2).bind fun t676 => (if t674 < (-1) then (steelyardlaw01_NatOrder.j1 kj3 l0 l1 t674 true) else (if t674 > 1 then (steelyardlaw01_NatOrder.j1 kj3 l0 l1 t674 true) else ((nat_Cmp.f kj3 l1 l0).bind fun t677 => (if t677 = (wrap64 (-t674)) then (if t674 ≤ 0 then (if t675 ≤ 0 then (if t676 > 0 then (steelyardlaw01_NatOrder.j1 kj3 l0 l1 t674 true) else (if t674 = 0 then (if t676 = t675 then ((nat_Trim.f kj3 l0).bind fun t678 => ((nat_Trim.f kj3 l1).bind fun t681 => ((steelyardkeep_Nat.f kj3 t678 t681).bind fun t684 => (steelyardlaw01_NatOrder.j1 kj3 l0 l1 t674 ((t674 == 0) != t684))))) else (steelyardlaw01_NatOrder.j1 kj3 l0 l1 t674 true)) else ((nat_Trim.f kj3 l0).bind fun t685 => ((nat_Trim.f kj3 l1).bind fun t688 => ((steelyardkeep_Nat.f kj3 t685 t688).bind fun t691 => (steelyardlaw01_NatOrder.j1 kj3 l0 l1 t674 ((t674 == 0) != t691))))))) else (if t674 = 0 then (if t676 = t675 then ((nat_Trim.f kj3 l0).bind fun t692 => ((nat_Trim.f kj3 l1).bind fun t695 => ((steelyardkeep_Nat.f kj3 t692 t695).bind fun t698 => (steelyardlaw01_NatOrder.j1 kj3 l0 l1 t674 ((t674 == 0) != t698))))) else (steelyardlaw01_NatOrder.j1 kj3 l0 l1 t674 true)) else ((nat_Trim.f kj3 l0).bind fun t699 => ((nat_Trim.f kj3 l1).bind fun t702 => ((steelyardkeep_Nat.f kj3 t699 t702).bind fun t705 => (steelyardlaw01_NatOrder.j1 kj3 l0 l1 t674 ((t674 == 0) != t705))))))) else (if t674 = 0 then (if t676 = t675 then ((nat_Trim.f kj3 l0).bind fun t706 => ((nat_Trim.f kj3 l1).bind fun t709 => ((steelyardkeep_Nat.f kj3 t706 t709).bind fun t712 => (steelyardlaw01_NatOrder.j1 kj3 l0 l1 t674 ((t674 == 0) != t712))))) else (steelyardlaw01_NatOrder.j1 kj3 l0 l1 t674 true)) else ((nat_Trim.f kj3 l0).bind fun t713 => ((nat_Trim.f kj3 l1).bind fun t716 => ((steelyardkeep_Nat.f kj3 t713 t716).bind fun t719 => (steelyardlaw01_NatOrder.j1 kj3 l0 l1 t674 ((t674 == 0) != t719))))))) else (steelyardlaw01_NatOrder.j1 kj3 l0 l1 t674 true)))))) = some r := H
        have A14 := Aside0.mk A140
        clear A140
        replace H := Option.bind_eq_some_iff.mp H
        obtain ⟨t676, A150, H⟩ := H
        replace H : (if t674 < (-1) then (steelyardlaw01_NatOrder.j1 kj3 l0 l1 t674 true) else (if t674 > 1 then (steelyardlaw01_NatOrder.j1 kj3 l0 l1 t674 true) else ((nat_Cmp.f kj3 l1 l0).bind fun t677 => (if t677 = (wrap64 (-t674)) then (if t674 ≤ 0 then (if t675 ≤ 0 then (if t676 > 0 then (steelyardlaw01_NatOrder.j1 kj3 l0 l1 t674 true) else (if t674 = 0 then (if t676 = t675 then ((nat_Trim.f kj3 l0).bind fun t678 => ((nat_Trim.f kj3 l1).bind fun t681 => ((steelyardkeep_Nat.f kj3 t678 t681).bind fun t684 => (steelyardlaw01_NatOrder.j1 kj3 l0 l1 t674 ((t674 == 0) != t684))))) else (steelyardlaw01_NatOrder.j1 kj3 l0 l1 t674 true)) else ((nat_Trim.f kj3 l0).bind fun t685 => ((nat_Trim.f kj3 l1).bind fun t688 => ((steelyardkeep_Nat.f kj3 t685 t688).bind fun t691 => (steelyardlaw01_NatOrder.j1 kj3 l0 l1 t674 ((t674 == 0) != t691))))))) else (if t674 = 0 then (if t676 = t675 then ((nat_Trim.f kj3 l0).bind fun t692 => ((nat_Trim.f kj3 l1).bind fun t695 => ((steelyardkeep_Nat.f kj3 t692 t695).bind fun t698 => (steelyardlaw01_NatOrder.j1 kj3 l0 l1 t674 ((t674 == 0) != t698))))) else (steelyardlaw01_NatOrder.j1 kj3 l0 l1 t674 true)) else ((nat_Trim.f kj3 l0).bind fun t699 => ((nat_Trim.f kj3 l1).bind fun t702 => ((steelyardkeep_Nat.f kj3 t699 t702).bind fun t705 => (steelyardlaw01_NatOrder.j1 kj3 l0 l1 t674 ((t674 == 0) != t705))))))) else (if t674 = 0 then (if t676 = t675 then ((nat_Trim.f kj3 l0).bind fun t706 => ((nat_Trim.f kj3 l1).bind fun t709 => ((steelyardkeep_Nat.f kj3 t706 t709).bind fun t712 => (steelyardlaw01_NatOrder.j1 kj3 l0 l1 t674 ((t674 == 0) != t712))))) else (steelyardlaw01_NatOrder.j1 kj3 l0 l1 t674 true)) else ((nat_Trim.f kj3 l0).bind fun t713 => ((nat_Trim.f kj3 l1).bind fun t716 => ((steelyardkeep_Nat.f kj3 t713 t716).bind fun t719 => (steelyardlaw01_NatOrder.j1 kj3 l0 l1 t674 ((t674 == 0) != t719))))))) else (steelyardlaw01_NatOrder.j1 kj3 l0 l1 t674 true))))) = some r := H
        have A15 := Aside0.mk A150
        clear A150
        have HC16 := Aside0.mk H
        clear H
        go_upto_region 4 with (first | ((with_reducible refine gate_callee (f := 32) rfl ?_); refine goesL_ (some 24) rfl rfl Try.func32 (by kernel_rfl) rfl #[.slice A0 l0.length c0, .slice A1 l1.length c1] rfl (by (try simp only [List.map_toArray, List.map_cons, List.map_nil]); first | done | rfl | (simp only [List.length_drop, List.length_take]; rfl)) ?_; (with_reducible refine (nat_Cmp.calls kj3 _ _ l0 _ _ l1 t674 _ ?side1 ?side2 ?side3 ?side4 A13.out).mono ?_); (case side1 => repeat (first | exact (Kd.C_below HR0.out HB.out) | (with_reducible refine Kd.C_alloc ?_ _) | (with_reducible refine Kd.C_drewN ?_ _) | (with_reducible refine Kd.C_drew ?_))); (case side2 => exact HC0.out); (case side3 => repeat (first | exact (Kd.C_below HR1.out HB.out) | (with_reducible refine Kd.C_alloc ?_ _) | (with_reducible refine Kd.C_drewN ?_ _) | (with_reducible refine Kd.C_drew ?_))); (case side4 => exact HC1.out); rintro e w' ⟨rfl, ⟨nd, rfl⟩⟩; refine ⟨_, rfl, ?_⟩) | ((with_reducible refine gate_callee (f := 32) rfl ?_); refine goesL_ (some 27) rfl rfl Try.func32 (by kernel_rfl) rfl #[.slice A1 l1.length c1, .slice A2 l2.length c2] rfl (by (try simp only [List.map_toArray, List.map_cons, List.map_nil]); first | done | rfl | (simp only [List.length_drop, List.length_take]; rfl)) ?_; (with_reducible refine (nat_Cmp.calls kj3 _ _ l1 _ _ l2 t675 _ ?side1 ?side2 ?side3 ?side4 A14.out).mono ?_); (case side1 => repeat (first | exact (Kd.C_below HR1.out (by repeat (first | (with_reducible first | exact HB.out | apply below_alloc | apply pw_below_drewN | apply below_drew1) | exact HB.out))) | (with_reducible refine Kd.C_alloc ?_ _) | (with_reducible refine Kd.C_drewN ?_ _) | (with_reducible refine Kd.C_drew ?_))); (case side2 => exact HC1.out); (case side3 => repeat (first | exact (Kd.C_below HR2.out (by repeat (first | (with_reducible first | exact HB.out | apply below_alloc | apply pw_below_drewN | apply below_drew1) | exact HB.out))) | (with_reducible refine Kd.C_alloc ?_ _) | (with_reducible refine Kd.C_drewN ?_ _) | (with_reducible refine Kd.C_drew ?_))); (case side4 => exact HC2.out); rintro e w' ⟨rfl, ⟨nd, rfl⟩⟩; refine ⟨_, rfl, ?_⟩) | ((with_reducible refine gate_callee (f := 32) rfl ?_); refine goesL_ (some 30) rfl rfl Try.func32 (by kernel_rfl) rfl #[.slice A0 l0.length c0, .slice A2 l2.length c2] rfl (by (try simp only [List.map_toArray, List.map_cons, List.map_nil]); first | done | rfl | (simp only [List.length_drop, List.length_take]; rfl)) ?_; (with_reducible refine (nat_Cmp.calls kj3 _ _ l0 _ _ l2 t676 _ ?side1 ?side2 ?side3 ?side4 A15.out).mono ?_); (case side1 => repeat (first | exact (Kd.C_below HR0.out (by repeat (first | (with_reducible first | exact HB.out | apply below_alloc | apply pw_below_drewN | apply below_drew1) | exact HB.out))) | (with_reducible refine Kd.C_alloc ?_ _) | (with_reducible refine Kd.C_drewN ?_ _) | (with_reducible refine Kd.C_drew ?_))); (case side2 => exact HC0.out); (case side3 => repeat (first | exact (Kd.C_below HR2.out (by repeat (first | (with_reducible first | exact HB.out | apply below_alloc | apply pw_below_drewN | apply below_drew1) | exact HB.out))) | (with_reducible refine Kd.C_alloc ?_ _) | (with_reducible refine Kd.C_drewN ?_ _) | (with_reducible refine Kd.C_drew ?_))); (case side4 => exact HC2.out); rintro e w' ⟨rfl, ⟨nd, rfl⟩⟩; refine ⟨_, rfl, ?_⟩))
        (try simp only [Act.put, List.setIfInBounds_toArray, List.set_cons_zero, List.set_cons_succ])
        go_cut [75] (fun v75 wc => ∃ (kq : Nat) (x75_15 : Bool), v75 = .bool x75_15 ∧ Aside0 (steelyardlaw01_NatOrder.j1 kq l0 l1 t674 x75_15 = some r) ∧ Aside0 (kq ≤ kj3) ∧ Aside0 (Below w.heap.size w wc))
        case first =>
          have H := HC16.out
          clear HC16
          by_cases c17 : t674 < (-1)
          · rw [if_pos c17] at H
            have c17b0 : decide (t674 < (-1)) = true := decide_eq_true c17
            clear c17
            (first | rw [c17b0] | (simp only [i64_w, i32_w]; rw [c17b0]) | skip)
            have H' := Aside0.mk H
            clear H
            go_wp2
            go_meet
            case rel => exact ⟨_, (true), (by first | rfl | (simp; done) | (simp [*]; done)), H', ⟨by have := HJ3.out; first | omega | exact Nat.le_refl _⟩, ⟨by repeat (first | (with_reducible first | exact HB.out | apply below_alloc | apply pw_below_drewN | apply below_drew1) | exact HB.out)⟩⟩
          · rw [if_neg c17] at H
            have c17b0 : decide (t674 < (-1)) = false := decide_eq_false c17
            clear c17
            (first | rw [c17b0] | (simp only [i64_w, i32_w]; rw [c17b0]) | skip)
            by_cases c18 : t674 > 1
            · rw [if_pos c18] at H
              have c18b0 : decide (1 < t674) = true := decide_eq_true c18
              clear c18
              have H' := Aside0.mk H
              clear H
              go_wp2
              go_meet
              case rel => exact ⟨_, (true), (by first | rfl | (simp; done) | (simp [*]; done)), H', ⟨by have := HJ3.out; first | omega | exact Nat.le_refl _⟩, ⟨by repeat (first | (with_reducible first | exact HB.out | apply below_alloc | apply pw_below_drewN | apply below_drew1) | exact HB.out)⟩⟩
            · rw [if_neg c18] at H
              have c18b0 : decide (1 < t674) = false := decide_eq_false c18
              clear c18
              replace H := Option.bind_eq_some_iff.mp H
              obtain ⟨t677, A190, H⟩ := H
              replace H : (if t677 = (wrap64 (-t674)) then (if t674 ≤ 0 then (if t675 ≤ 0 then (if t676 > 0 then (steelyardlaw01_NatOrder.j1 kj3 l0 l1 t674 true) else (if t674 = 0 then (if t676 = t675 then ((nat_Trim.f kj3 l0).bind fun t678 => ((nat_Trim.f kj3 l1).bind fun t681 => ((steelyardkeep_Nat.f kj3 t678 t681).bind fun t684 => (steelyardlaw01_NatOrder.j1 kj3 l0 l1 t674 ((t674 == 0) != t684))))) else (steelyardlaw01_NatOrder.j1 kj3 l0 l1 t674 true)) else ((nat_Trim.f kj3 l0).bind fun t685 => ((nat_Trim.f kj3 l1).bind fun t688 => ((steelyardkeep_Nat.f kj3 t685 t688).bind fun t691 => (steelyardlaw01_NatOrder.j1 kj3 l0 l1 t674 ((t674 == 0) != t691))))))) else (if t674 = 0 then (if t676 = t675 then ((nat_Trim.f kj3 l0).bind fun t692 => ((nat_Trim.f kj3 l1).bind fun t695 => ((steelyardkeep_Nat.f kj3 t692 t695).bind fun t698 => (steelyardlaw01_NatOrder.j1 kj3 l0 l1 t674 ((t674 == 0) != t698))))) else (steelyardlaw01_NatOrder.j1 kj3 l0 l1 t674 true)) else ((nat_Trim.f kj3 l0).bind fun t699 => ((nat_Trim.f kj3 l1).bind fun t702 => ((steelyardkeep_Nat.f kj3 t699 t702).bind fun t705 => (steelyardlaw01_NatOrder.j1 kj3 l0 l1 t674 ((t674 == 0) != t705))))))) else (if t674 = 0 then (if t676 = t675 then ((nat_Trim.f kj3 l0).bind fun t706 => ((nat_Trim.f kj3 l1).bind fun t709 => ((steelyardkeep_Nat.f kj3 t706 t709).bind fun t712 => (steelyardlaw01_NatOrder.j1 kj3 l0 l1 t674 ((t674 == 0) != t712))))) else (steelyardlaw01_NatOrder.j1 kj3 l0 l1 t674 true)) else ((nat_Trim.f kj3 l0).bind fun t713 => ((nat_Trim.f kj3 l1).bind fun t716 => ((steelyardkeep_Nat.f kj3 t713 t716).bind fun t719 => (steelyardlaw01_NatOrder.j1 kj3 l0 l1 t674 ((t674 == 0) != t719))))))) else (steelyardlaw01_NatOrder.j1 kj3 l0 l1 t674 true)) = some r := H
              have A19 := Aside0.mk A190
              clear A190
              by_cases c20 : t677 = (wrap64 (-t674))
              · rw [if_pos c20] at H
                have c20b0 : (t677 == (wrap64 (-t674))) = true := beq_iff_eq.mpr c20
                have c20b1 : (t677 != (wrap64 (-t674))) = false := bne_eq_false_iff_eq.mpr c20
                clear c20
                by_cases c21 : t674 ≤ 0
                · rw [if_pos c21] at H
                  have c21b0 : decide (t674 ≤ 0) = true := decide_eq_true c21
                  clear c21
                  by_cases c22 : t675 ≤ 0
                  · rw [if_pos c22] at H
                    have c22b0 : decide (t675 ≤ 0) = true := decide_eq_true c22
                    clear c22
                    by_cases c23 : t676 > 0
                    · rw [if_pos c23] at H
                      have c23b0 : decide (0 < t676) = true := decide_eq_true c23
                      clear c23
                      have H' := Aside0.mk H
                      clear H
                      go_wp2_with (first | (go_at_call 32; (with_reducible refine (nat_Cmp.calls kj3 _ _ l1 _ _ l0 t677 _ ?side1 ?side2 ?side3 ?side4 A19.out).mono ?_); (case side1 => repeat (first | exact (Kd.C_below HR1.out HB.out) | (with_reducible refine Kd.C_alloc ?_ _) | (with_reducible refine Kd.C_drewN ?_ _) | (with_reducible refine Kd.C_drew ?_))); (case side2 => exact HC1.out); (case side3 => repeat (first | exact (Kd.C_below HR0.out HB.out) | (with_reducible refine Kd.C_alloc ?_ _) | (with_reducible refine Kd.C_drewN ?_ _) | (with_reducible refine Kd.C_drew ?_))); (case side4 => exact HC0.out); clear A19; rintro e w' ⟨rfl, ⟨nd, rfl⟩⟩))
                      go_meet
                      case rel => exact ⟨_, (true), (by first | rfl | (simp; done) | (simp [*]; done)), H', ⟨by have := HJ3.out; first | omega | exact Nat.le_refl _⟩, ⟨by repeat (first | (with_reducible first | exact HB.out | apply below_alloc | apply pw_below_drewN | apply below_drew1) | exact HB.out)⟩⟩
                    · rw [if_neg c23] at H
                      have c23b0 : decide (0 < t676) = false := decide_eq_false c23
                      clear c23
                      by_cases c24 : t674 = 0
                      · rw [if_pos c24] at H
                        have c24b0 : (t674 == 0) = true := beq_iff_eq.mpr c24
                        have c24b1 : (t674 != 0) = false := bne_eq_false_iff_eq.mpr c24
                        clear c24
                        by_cases c25 : t676 = t675
                        · rw [if_pos c25] at H
                          have c25b0 : (t676 == t675) = true := beq_iff_eq.mpr c25
                          have c25b1 : (t676 != t675) = false := bne_eq_false_iff_eq.mpr c25
                          clear c25
                          replace H := Option.bind_eq_some_iff.mp H
                          obtain ⟨t678, A260, H⟩ := H
                          replace H : ((nat_Trim.f kj3 l1).bind fun t681 => ((steelyardkeep_Nat.f kj3 t678 t681).bind fun t684 => (steelyardlaw01_NatOrder.j1 kj3 l0 l1 t674 ((t674 == 0) != t684)))) = some r := H
                          have A26 := Aside0.mk A260
                          clear A260
                          replace H := Option.bind_eq_some_iff.mp H
                          obtain ⟨t681, A270, H⟩ := H
                          replace H : ((steelyardkeep_Nat.f kj3 t678 t681).bind fun t684 => (steelyardlaw01_NatOrder.j1 kj3 l0 l1 t674 ((t674 == 0) != t684))) = some r := H
                          have A27 := Aside0.mk A270
                          clear A270
                          replace H := Option.bind_eq_some_iff.mp H
                          obtain ⟨t684, A280, H⟩ := H
                          replace H : (steelyardlaw01_NatOrder.j1 kj3 l0 l1 t674 ((t674 == 0) != t684)) = some r := H
                          have A28 := Aside0.mk A280
                          clear A280
                          have H' := Aside0.mk H
                          clear H
                          go_wp2_with (first | (go_at_call 32; (with_reducible refine (nat_Cmp.calls kj3 _ _ l1 _ _ l0 t677 _ ?side1 ?side2 ?side3 ?side4 A19.out).mono ?_); (case side1 => repeat (first | exact (Kd.C_below HR1.out HB.out) | (with_reducible refine Kd.C_alloc ?_ _) | (with_reducible refine Kd.C_drewN ?_ _) | (with_reducible refine Kd.C_drew ?_))); (case side2 => exact HC1.out); (case side3 => repeat (first | exact (Kd.C_below HR0.out HB.out) | (with_reducible refine Kd.C_alloc ?_ _) | (with_reducible refine Kd.C_drewN ?_ _) | (with_reducible refine Kd.C_drew ?_))); (case side4 => exact HC0.out); clear A19; rintro e w' ⟨rfl, ⟨nd, rfl⟩⟩) | (go_at_call 25; (with_reducible refine (nat_Trim.calls kj3 _ _ l0 t678 _ ?side1 ?side2 A26.out).mono ?_); (case side1 => repeat (first | exact (Kd.C_below HR0.out (by repeat (first | (with_reducible first | exact HB.out | apply below_alloc | apply pw_below_drewN | apply below_drew1) | exact HB.out))) | (with_reducible refine Kd.C_alloc ?_ _) | (with_reducible refine Kd.C_drewN ?_ _) | (with_reducible refine Kd.C_drew ?_))); (case side2 => exact HC0.out); clear A26; rintro e w29 ⟨v679, rfl, ho0, hb⟩; have n0_ := Aside0.mk (Kd.R_lower ho0 (below_size (by repeat (first | (with_reducible first | exact HB.out | apply below_alloc | apply pw_below_drewN | apply below_drew1) | exact HB.out)))); have n1_ := Aside0.mk (below_step (by repeat (first | (with_reducible first | exact HB.out | apply below_alloc | apply pw_below_drewN | apply below_drew1) | exact HB.out)) hb); clear HB; have HO680 := n0_; have HB := n1_; clear n0_ n1_; (try clear hb); (try clear hb2); (try clear hk); (try clear hi); (try clear ho0)) | (go_at_call 25; (with_reducible refine (nat_Trim.calls kj3 _ _ l1 t681 _ ?side1 ?side2 A27.out).mono ?_); (case side1 => repeat (first | exact (Kd.C_below HR1.out HB.out) | (with_reducible refine Kd.C_alloc ?_ _) | (with_reducible refine Kd.C_drewN ?_ _) | (with_reducible refine Kd.C_drew ?_))); (case side2 => exact HC1.out); clear A27; rintro e w30 ⟨v682, rfl, ho0, hb⟩; have n0_ := Aside0.mk (Kd.R_elder' (by (with_reducible repeat (first | apply Kd.R_alloc | apply Kd.R_drewN | apply Kd.R_drew)); exact HO680.out) (Kd.R_base ho0) hb); have n1_ := Aside0.mk (Kd.R_lower (Kd.R_new' ho0 (Kd.R_lt (by (with_reducible repeat (first | apply Kd.R_alloc | apply Kd.R_drewN | apply Kd.R_drew)); exact HO680.out))) (below_size (by repeat (first | (with_reducible first | exact HB.out | apply below_alloc | apply pw_below_drewN | apply below_drew1) | exact HB.out)))); have n2_ := Aside0.mk (below_step (by repeat (first | (with_reducible first | exact HB.out | apply below_alloc | apply pw_below_drewN | apply below_drew1) | exact HB.out)) hb); clear HO680; clear HB; have HO680 := n0_; have HO683 := n1_; have HB := n2_; clear n0_ n1_ n2_; (try clear hb); (try clear hb2); (try clear hk); (try clear hi); (try clear ho0); obtain ⟨Ao31, co31, eo31⟩ := Kd.R_slice HO680.out; subst eo31; obtain ⟨Ao32, co32, eo32⟩ := Kd.R_slice HO683.out; subst eo32) | (go_at_call 17; (with_reducible refine (steelyardkeep_Nat.calls kj3 _ _ t678 _ _ t681 t684 _ ?side1 ?side2 ?side3 ?side4 A28.out).mono ?_); (case side1 => repeat (first | exact (Kd.R_reads' HO680.out).2.2 | (with_reducible refine Kd.C_alloc ?_ _) | (with_reducible refine Kd.C_drewN ?_ _) | (with_reducible refine Kd.C_drew ?_))); (case side2 => exact (Kd.R_reads' HO680.out).2.1); (case side3 => repeat (first | exact (Kd.R_reads' HO683.out).2.2 | (with_reducible refine Kd.C_alloc ?_ _) | (with_reducible refine Kd.C_drewN ?_ _) | (with_reducible refine Kd.C_drew ?_))); (case side4 => exact (Kd.R_reads' HO683.out).2.1); clear A28; rintro e w' ⟨rfl, ⟨nd, rfl⟩⟩))
                          go_meet
                          case rel => exact ⟨_, (((t674 == 0) != t684)), (by first | rfl | (simp; done) | (simp [*]; done)), H', ⟨by have := HJ3.out; first | omega | exact Nat.le_refl _⟩, ⟨by repeat (first | (with_reducible first | exact HB.out | apply below_alloc | apply pw_below_drewN | apply below_drew1) | exact HB.out)⟩⟩
                        · rw [if_neg c25] at H
                          have c25b0 : (t676 == t675) = false := beq_eq_false_iff_ne.mpr c25
                          have c25b1 : (t676 != t675) = true := bne_iff_ne.mpr c25
                          have H' := Aside0.mk H
                          clear H
                          go_wp2_with (first | (go_at_call 32; (with_reducible refine (nat_Cmp.calls kj3 _ _ l1 _ _ l0 t677 _ ?side1 ?side2 ?side3 ?side4 A19.out).mono ?_); (case side1 => repeat (first | exact (Kd.C_below HR1.out HB.out) | (with_reducible refine Kd.C_alloc ?_ _) | (with_reducible refine Kd.C_drewN ?_ _) | (with_reducible refine Kd.C_drew ?_))); (case side2 => exact HC1.out); (case side3 => repeat (first | exact (Kd.C_below HR0.out HB.out) | (with_reducible refine Kd.C_alloc ?_ _) | (with_reducible refine Kd.C_drewN ?_ _) | (with_reducible refine Kd.C_drew ?_))); (case side4 => exact HC0.out); clear A19; rintro e w' ⟨rfl, ⟨nd, rfl⟩⟩))
                          go_meet
                          case rel => exact ⟨_, (true), (by first | rfl | (simp; done) | (simp [*]; done)), H', ⟨by have := HJ3.out; first | omega | exact Nat.le_refl _⟩, ⟨by repeat (first | (with_reducible first | exact HB.out | apply below_alloc | apply pw_below_drewN | apply below_drew1) | exact HB.out)⟩⟩
                      · rw [if_neg c24] at H
                        have c24b0 : (t674 == 0) = false := beq_eq_false_iff_ne.mpr c24
                        have c24b1 : (t674 != 0) = true := bne_iff_ne.mpr c24
                        replace H := Option.bind_eq_some_iff.mp H
                        obtain ⟨t685, A330, H⟩ := H
                        replace H : ((nat_Trim.f kj3 l1).bind fun t688 => ((steelyardkeep_Nat.f kj3 t685 t688).bind fun t691 => (steelyardlaw01_NatOrder.j1 kj3 l0 l1 t674 ((t674 == 0) != t691)))) = some r := H
                        have A33 := Aside0.mk A330
                        clear A330
                        replace H := Option.bind_eq_some_iff.mp H
                        obtain ⟨t688, A340, H⟩ := H
                        replace H : ((steelyardkeep_Nat.f kj3 t685 t688).bind fun t691 => (steelyardlaw01_NatOrder.j1 kj3 l0 l1 t674 ((t674 == 0) != t691))) = some r := H
                        have A34 := Aside0.mk A340
                        clear A340
                        replace H := Option.bind_eq_some_iff.mp H
                        obtain ⟨t691, A350, H⟩ := H
                        replace H : (steelyardlaw01_NatOrder.j1 kj3 l0 l1 t674 ((t674 == 0) != t691)) = some r := H
                        have A35 := Aside0.mk A350
                        clear A350
                        have H' := Aside0.mk H
                        clear H
                        go_wp2_with (first | (go_at_call 32; (with_reducible refine (nat_Cmp.calls kj3 _ _ l1 _ _ l0 t677 _ ?side1 ?side2 ?side3 ?side4 A19.out).mono ?_); (case side1 => repeat (first | exact (Kd.C_below HR1.out HB.out) | (with_reducible refine Kd.C_alloc ?_ _) | (with_reducible refine Kd.C_drewN ?_ _) | (with_reducible refine Kd.C_drew ?_))); (case side2 => exact HC1.out); (case side3 => repeat (first | exact (Kd.C_below HR0.out HB.out) | (with_reducible refine Kd.C_alloc ?_ _) | (with_reducible refine Kd.C_drewN ?_ _) | (with_reducible refine Kd.C_drew ?_))); (case side4 => exact HC0.out); clear A19; rintro e w' ⟨rfl, ⟨nd, rfl⟩⟩) | (go_at_call 25; (with_reducible refine (nat_Trim.calls kj3 _ _ l0 t685 _ ?side1 ?side2 A33.out).mono ?_); (case side1 => repeat (first | exact (Kd.C_below HR0.out (by repeat (first | (with_reducible first | exact HB.out | apply below_alloc | apply pw_below_drewN | apply below_drew1) | exact HB.out))) | (with_reducible refine Kd.C_alloc ?_ _) | (with_reducible refine Kd.C_drewN ?_ _) | (with_reducible refine Kd.C_drew ?_))); (case side2 => exact HC0.out); clear A33; rintro e w36 ⟨v686, rfl, ho0, hb⟩; have n0_ := Aside0.mk (Kd.R_lower ho0 (below_size (by repeat (first | (with_reducible first | exact HB.out | apply below_alloc | apply pw_below_drewN | apply below_drew1) | exact HB.out)))); have n1_ := Aside0.mk (below_step (by repeat (first | (with_reducible first | exact HB.out | apply below_alloc | apply pw_below_drewN | apply below_drew1) | exact HB.out)) hb); clear HB; have HO687 := n0_; have HB := n1_; clear n0_ n1_; (try clear hb); (try clear hb2); (try clear hk); (try clear hi); (try clear ho0)) | (go_at_call 25; (with_reducible refine (nat_Trim.calls kj3 _ _ l1 t688 _ ?side1 ?side2 A34.out).mono ?_); (case side1 => repeat (first | exact (Kd.C_below HR1.out HB.out) | (with_reducible refine Kd.C_alloc ?_ _) | (with_reducible refine Kd.C_drewN ?_ _) | (with_reducible refine Kd.C_drew ?_))); (case side2 => exact HC1.out); clear A34; rintro e w37 ⟨v689, rfl, ho0, hb⟩; have n0_ := Aside0.mk (Kd.R_elder' (by (with_reducible repeat (first | apply Kd.R_alloc | apply Kd.R_drewN | apply Kd.R_drew)); exact HO687.out) (Kd.R_base ho0) hb); have n1_ := Aside0.mk (Kd.R_lower (Kd.R_new' ho0 (Kd.R_lt (by (with_reducible repeat (first | apply Kd.R_alloc | apply Kd.R_drewN | apply Kd.R_drew)); exact HO687.out))) (below_size (by repeat (first | (with_reducible first | exact HB.out | apply below_alloc | apply pw_below_drewN | apply below_drew1) | exact HB.out)))); have n2_ := Aside0.mk (below_step (by repeat (first | (with_reducible first | exact HB.out | apply below_alloc | apply pw_below_drewN | apply below_drew1) | exact HB.out)) hb); clear HO687; clear HB; have HO687 := n0_; have HO690 := n1_; have HB := n2_; clear n0_ n1_ n2_; (try clear hb); (try clear hb2); (try clear hk); (try clear hi); (try clear ho0); obtain ⟨Ao38, co38, eo38⟩ := Kd.R_slice HO687.out; subst eo38; obtain ⟨Ao39, co39, eo39⟩ := Kd.R_slice HO690.out; subst eo39) | (go_at_call 17; (with_reducible refine (steelyardkeep_Nat.calls kj3 _ _ t685 _ _ t688 t691 _ ?side1 ?side2 ?side3 ?side4 A35.out).mono ?_); (case side1 => repeat (first | exact (Kd.R_reads' HO687.out).2.2 | (with_reducible refine Kd.C_alloc ?_ _) | (with_reducible refine Kd.C_drewN ?_ _) | (with_reducible refine Kd.C_drew ?_))); (case side2 => exact (Kd.R_reads' HO687.out).2.1); (case side3 => repeat (first | exact (Kd.R_reads' HO690.out).2.2 | (with_reducible refine Kd.C_alloc ?_ _) | (with_reducible refine Kd.C_drewN ?_ _) | (with_reducible refine Kd.C_drew ?_))); (case side4 => exact (Kd.R_reads' HO690.out).2.1); clear A35; rintro e w' ⟨rfl, ⟨nd, rfl⟩⟩))
                        go_meet
                        case rel => exact ⟨_, (((t674 == 0) != t691)), (by first | rfl | (simp; done) | (simp [*]; done)), H', ⟨by have := HJ3.out; first | omega | exact Nat.le_refl _⟩, ⟨by repeat (first | (with_reducible first | exact HB.out | apply below_alloc | apply pw_below_drewN | apply below_drew1) | exact HB.out)⟩⟩
                  · rw [if_neg c22] at H
                    have c22b0 : decide (t675 ≤ 0) = false := decide_eq_false c22
                    clear c22
                    by_cases c40 : t674 = 0
                    · rw [if_pos c40] at H
                      have c40b0 : (t674 == 0) = true := beq_iff_eq.mpr c40
                      have c40b1 : (t674 != 0) = false := bne_eq_false_iff_eq.mpr c40
                      clear c40
                      by_cases c41 : t676 = t675
                      · rw [if_pos c41] at H
                        have c41b0 : (t676 == t675) = true := beq_iff_eq.mpr c41
                        have c41b1 : (t676 != t675) = false := bne_eq_false_iff_eq.mpr c41
                        clear c41
                        replace H := Option.bind_eq_some_iff.mp H
                        obtain ⟨t692, A420, H⟩ := H
                        replace H : ((nat_Trim.f kj3 l1).bind fun t695 => ((steelyardkeep_Nat.f kj3 t692 t695).bind fun t698 => (steelyardlaw01_NatOrder.j1 kj3 l0 l1 t674 ((t674 == 0) != t698)))) = some r := H
                        have A42 := Aside0.mk A420
                        clear A420
                        replace H := Option.bind_eq_some_iff.mp H
                        obtain ⟨t695, A430, H⟩ := H
                        replace H : ((steelyardkeep_Nat.f kj3 t692 t695).bind fun t698 => (steelyardlaw01_NatOrder.j1 kj3 l0 l1 t674 ((t674 == 0) != t698))) = some r := H
                        have A43 := Aside0.mk A430
                        clear A430
                        replace H := Option.bind_eq_some_iff.mp H
                        obtain ⟨t698, A440, H⟩ := H
                        replace H : (steelyardlaw01_NatOrder.j1 kj3 l0 l1 t674 ((t674 == 0) != t698)) = some r := H
                        have A44 := Aside0.mk A440
                        clear A440
                        have H' := Aside0.mk H
                        clear H
                        go_wp2_with (first | (go_at_call 32; (with_reducible refine (nat_Cmp.calls kj3 _ _ l1 _ _ l0 t677 _ ?side1 ?side2 ?side3 ?side4 A19.out).mono ?_); (case side1 => repeat (first | exact (Kd.C_below HR1.out HB.out) | (with_reducible refine Kd.C_alloc ?_ _) | (with_reducible refine Kd.C_drewN ?_ _) | (with_reducible refine Kd.C_drew ?_))); (case side2 => exact HC1.out); (case side3 => repeat (first | exact (Kd.C_below HR0.out HB.out) | (with_reducible refine Kd.C_alloc ?_ _) | (with_reducible refine Kd.C_drewN ?_ _) | (with_reducible refine Kd.C_drew ?_))); (case side4 => exact HC0.out); clear A19; rintro e w' ⟨rfl, ⟨nd, rfl⟩⟩) | (go_at_call 25; (with_reducible refine (nat_Trim.calls kj3 _ _ l0 t692 _ ?side1 ?side2 A42.out).mono ?_); (case side1 => repeat (first | exact (Kd.C_below HR0.out (by repeat (first | (with_reducible first | exact HB.out | apply below_alloc | apply pw_below_drewN | apply below_drew1) | exact HB.out))) | (with_reducible refine Kd.C_alloc ?_ _) | (with_reducible refine Kd.C_drewN ?_ _) | (with_reducible refine Kd.C_drew ?_))); (case side2 => exact HC0.out); clear A42; rintro e w45 ⟨v693, rfl, ho0, hb⟩; have n0_ := Aside0.mk (Kd.R_lower ho0 (below_size (by repeat (first | (with_reducible first | exact HB.out | apply below_alloc | apply pw_below_drewN | apply below_drew1) | exact HB.out)))); have n1_ := Aside0.mk (below_step (by repeat (first | (with_reducible first | exact HB.out | apply below_alloc | apply pw_below_drewN | apply below_drew1) | exact HB.out)) hb); clear HB; have HO694 := n0_; have HB := n1_; clear n0_ n1_; (try clear hb); (try clear hb2); (try clear hk); (try clear hi); (try clear ho0)) | (go_at_call 25; (with_reducible refine (nat_Trim.calls kj3 _ _ l1 t695 _ ?side1 ?side2 A43.out).mono ?_); (case side1 => repeat (first | exact (Kd.C_below HR1.out HB.out) | (with_reducible refine Kd.C_alloc ?_ _) | (with_reducible refine Kd.C_drewN ?_ _) | (with_reducible refine Kd.C_drew ?_))); (case side2 => exact HC1.out); clear A43; rintro e w46 ⟨v696, rfl, ho0, hb⟩; have n0_ := Aside0.mk (Kd.R_elder' (by (with_reducible repeat (first | apply Kd.R_alloc | apply Kd.R_drewN | apply Kd.R_drew)); exact HO694.out) (Kd.R_base ho0) hb); have n1_ := Aside0.mk (Kd.R_lower (Kd.R_new' ho0 (Kd.R_lt (by (with_reducible repeat (first | apply Kd.R_alloc | apply Kd.R_drewN | apply Kd.R_drew)); exact HO694.out))) (below_size (by repeat (first | (with_reducible first | exact HB.out | apply below_alloc | apply pw_below_drewN | apply below_drew1) | exact HB.out)))); have n2_ := Aside0.mk (below_step (by repeat (first | (with_reducible first | exact HB.out | apply below_alloc | apply pw_below_drewN | apply below_drew1) | exact HB.out)) hb); clear HO694; clear HB; have HO694 := n0_; have HO697 := n1_; have HB := n2_; clear n0_ n1_ n2_; (try clear hb); (try clear hb2); (try clear hk); (try clear hi); (try clear ho0); obtain ⟨Ao47, co47, eo47⟩ := Kd.R_slice HO694.out; subst eo47; obtain ⟨Ao48, co48, eo48⟩ := Kd.R_slice HO697.out; subst eo48) | (go_at_call 17; (with_reducible refine (steelyardkeep_Nat.calls kj3 _ _ t692 _ _ t695 t698 _ ?side1 ?side2 ?side3 ?side4 A44.out).mono ?_); (case side1 => repeat (first | exact (Kd.R_reads' HO694.out).2.2 | (with_reducible refine Kd.C_alloc ?_ _) | (with_reducible refine Kd.C_drewN ?_ _) | (with_reducible refine Kd.C_drew ?_))); (case side2 => exact (Kd.R_reads' HO694.out).2.1); (case side3 => repeat (first | exact (Kd.R_reads' HO697.out).2.2 | (with_reducible refine Kd.C_alloc ?_ _) | (with_reducible refine Kd.C_drewN ?_ _) | (with_reducible refine Kd.C_drew ?_))); (case side4 => exact (Kd.R_reads' HO697.out).2.1); clear A44; rintro e w' ⟨rfl, ⟨nd, rfl⟩⟩))
                        go_meet
                        case rel => exact ⟨_, (((t674 == 0) != t698)), (by first | rfl | (simp; done) | (simp [*]; done)), H', ⟨by have := HJ3.out; first | omega | exact Nat.le_refl _⟩, ⟨by repeat (first | (with_reducible first | exact HB.out | apply below_alloc | apply pw_below_drewN | apply below_drew1) | exact HB.out)⟩⟩
                      · rw [if_neg c41] at H
                        have c41b0 : (t676 == t675) = false := beq_eq_false_iff_ne.mpr c41
                        have c41b1 : (t676 != t675) = true := bne_iff_ne.mpr c41
                        have H' := Aside0.mk H
                        clear H
                        go_wp2_with (first | (go_at_call 32; (with_reducible refine (nat_Cmp.calls kj3 _ _ l1 _ _ l0 t677 _ ?side1 ?side2 ?side3 ?side4 A19.out).mono ?_); (case side1 => repeat (first | exact (Kd.C_below HR1.out HB.out) | (with_reducible refine Kd.C_alloc ?_ _) | (with_reducible refine Kd.C_drewN ?_ _) | (with_reducible refine Kd.C_drew ?_))); (case side2 => exact HC1.out); (case side3 => repeat (first | exact (Kd.C_below HR0.out HB.out) | (with_reducible refine Kd.C_alloc ?_ _) | (with_reducible refine Kd.C_drewN ?_ _) | (with_reducible refine Kd.C_drew ?_))); (case side4 => exact HC0.out); clear A19; rintro e w' ⟨rfl, ⟨nd, rfl⟩⟩))
                        go_meet
                        case rel => exact ⟨_, (true), (by first | rfl | (simp; done) | (simp [*]; done)), H', ⟨by have := HJ3.out; first | omega | exact Nat.le_refl _⟩, ⟨by repeat (first | (with_reducible first | exact HB.out | apply below_alloc | apply pw_below_drewN | apply below_drew1) | exact HB.out)⟩⟩
                    · rw [if_neg c40] at H
                      have c40b0 : (t674 == 0) = false := beq_eq_false_iff_ne.mpr c40
                      have c40b1 : (t674 != 0) = true := bne_iff_ne.mpr c40
                      replace H := Option.bind_eq_some_iff.mp H
                      obtain ⟨t699, A490, H⟩ := H
                      replace H : ((nat_Trim.f kj3 l1).bind fun t702 => ((steelyardkeep_Nat.f kj3 t699 t702).bind fun t705 => (steelyardlaw01_NatOrder.j1 kj3 l0 l1 t674 ((t674 == 0) != t705)))) = some r := H
                      have A49 := Aside0.mk A490
                      clear A490
                      replace H := Option.bind_eq_some_iff.mp H
                      obtain ⟨t702, A500, H⟩ := H
                      replace H : ((steelyardkeep_Nat.f kj3 t699 t702).bind fun t705 => (steelyardlaw01_NatOrder.j1 kj3 l0 l1 t674 ((t674 == 0) != t705))) = some r := H
                      have A50 := Aside0.mk A500
                      clear A500
                      replace H := Option.bind_eq_some_iff.mp H
                      obtain ⟨t705, A510, H⟩ := H
                      replace H : (steelyardlaw01_NatOrder.j1 kj3 l0 l1 t674 ((t674 == 0) != t705)) = some r := H
                      have A51 := Aside0.mk A510
                      clear A510
                      have H' := Aside0.mk H
                      clear H
                      go_wp2_with (first | (go_at_call 32; (with_reducible refine (nat_Cmp.calls kj3 _ _ l1 _ _ l0 t677 _ ?side1 ?side2 ?side3 ?side4 A19.out).mono ?_); (case side1 => repeat (first | exact (Kd.C_below HR1.out HB.out) | (with_reducible refine Kd.C_alloc ?_ _) | (with_reducible refine Kd.C_drewN ?_ _) | (with_reducible refine Kd.C_drew ?_))); (case side2 => exact HC1.out); (case side3 => repeat (first | exact (Kd.C_below HR0.out HB.out) | (with_reducible refine Kd.C_alloc ?_ _) | (with_reducible refine Kd.C_drewN ?_ _) | (with_reducible refine Kd.C_drew ?_))); (case side4 => exact HC0.out); clear A19; rintro e w' ⟨rfl, ⟨nd, rfl⟩⟩) | (go_at_call 25; (with_reducible refine (nat_Trim.calls kj3 _ _ l0 t699 _ ?side1 ?side2 A49.out).mono ?_); (case side1 => repeat (first | exact (Kd.C_below HR0.out (by repeat (first | (with_reducible first | exact HB.out | apply below_alloc | apply pw_below_drewN | apply below_drew1) | exact HB.out))) | (with_reducible refine Kd.C_alloc ?_ _) | (with_reducible refine Kd.C_drewN ?_ _) | (with_reducible refine Kd.C_drew ?_))); (case side2 => exact HC0.out); clear A49; rintro e w52 ⟨v700, rfl, ho0, hb⟩; have n0_ := Aside0.mk (Kd.R_lower ho0 (below_size (by repeat (first | (with_reducible first | exact HB.out | apply below_alloc | apply pw_below_drewN | apply below_drew1) | exact HB.out)))); have n1_ := Aside0.mk (below_step (by repeat (first | (with_reducible first | exact HB.out | apply below_alloc | apply pw_below_drewN | apply below_drew1) | exact HB.out)) hb); clear HB; have HO701 := n0_; have HB := n1_; clear n0_ n1_; (try clear hb); (try clear hb2); (try clear hk); (try clear hi); (try clear ho0)) | (go_at_call 25; (with_reducible refine (nat_Trim.calls kj3 _ _ l1 t702 _ ?side1 ?side2 A50.out).mono ?_); (case side1 => repeat (first | exact (Kd.C_below HR1.out HB.out) | (with_reducible refine Kd.C_alloc ?_ _) | (with_reducible refine Kd.C_drewN ?_ _) | (with_reducible refine Kd.C_drew ?_))); (case side2 => exact HC1.out); clear A50; rintro e w53 ⟨v703, rfl, ho0, hb⟩; have n0_ := Aside0.mk (Kd.R_elder' (by (with_reducible repeat (first | apply Kd.R_alloc | apply Kd.R_drewN | apply Kd.R_drew)); exact HO701.out) (Kd.R_base ho0) hb); have n1_ := Aside0.mk (Kd.R_lower (Kd.R_new' ho0 (Kd.R_lt (by (with_reducible repeat (first | apply Kd.R_alloc | apply Kd.R_drewN | apply Kd.R_drew)); exact HO701.out))) (below_size (by repeat (first | (with_reducible first | exact HB.out | apply below_alloc | apply pw_below_drewN | apply below_drew1) | exact HB.out)))); have n2_ := Aside0.mk (below_step (by repeat (first | (with_reducible first | exact HB.out | apply below_alloc | apply pw_below_drewN | apply below_drew1) | exact HB.out)) hb); clear HO701; clear HB; have HO701 := n0_; have HO704 := n1_; have HB := n2_; clear n0_ n1_ n2_; (try clear hb); (try clear hb2); (try clear hk); (try clear hi); (try clear ho0); obtain ⟨Ao54, co54, eo54⟩ := Kd.R_slice HO701.out; subst eo54; obtain ⟨Ao55, co55, eo55⟩ := Kd.R_slice HO704.out; subst eo55) | (go_at_call 17; (with_reducible refine (steelyardkeep_Nat.calls kj3 _ _ t699 _ _ t702 t705 _ ?side1 ?side2 ?side3 ?side4 A51.out).mono ?_); (case side1 => repeat (first | exact (Kd.R_reads' HO701.out).2.2 | (with_reducible refine Kd.C_alloc ?_ _) | (with_reducible refine Kd.C_drewN ?_ _) | (with_reducible refine Kd.C_drew ?_))); (case side2 => exact (Kd.R_reads' HO701.out).2.1); (case side3 => repeat (first | exact (Kd.R_reads' HO704.out).2.2 | (with_reducible refine Kd.C_alloc ?_ _) | (with_reducible refine Kd.C_drewN ?_ _) | (with_reducible refine Kd.C_drew ?_))); (case side4 => exact (Kd.R_reads' HO704.out).2.1); clear A51; rintro e w' ⟨rfl, ⟨nd, rfl⟩⟩))
                      go_meet
                      case rel => exact ⟨_, (((t674 == 0) != t705)), (by first | rfl | (simp; done) | (simp [*]; done)), H', ⟨by have := HJ3.out; first | omega | exact Nat.le_refl _⟩, ⟨by repeat (first | (with_reducible first | exact HB.out | apply below_alloc | apply pw_below_drewN | apply below_drew1) | exact HB.out)⟩⟩
                · rw [if_neg c21] at H
                  have c21b0 : decide (t674 ≤ 0) = false := decide_eq_false c21
                  clear c21
                  by_cases c56 : t674 = 0
                  · rw [if_pos c56] at H
                    have c56b0 : (t674 == 0) = true := beq_iff_eq.mpr c56
                    have c56b1 : (t674 != 0) = false := bne_eq_false_iff_eq.mpr c56
                    clear c56
                    by_cases c57 : t676 = t675
                    · rw [if_pos c57] at H
                      have c57b0 : (t676 == t675) = true := beq_iff_eq.mpr c57
                      have c57b1 : (t676 != t675) = false := bne_eq_false_iff_eq.mpr c57
                      clear c57
                      replace H := Option.bind_eq_some_iff.mp H
                      obtain ⟨t706, A580, H⟩ := H
                      replace H : ((nat_Trim.f kj3 l1).bind fun t709 => ((steelyardkeep_Nat.f kj3 t706 t709).bind fun t712 => (steelyardlaw01_NatOrder.j1 kj3 l0 l1 t674 ((t674 == 0) != t712)))) = some r := H
                      have A58 := Aside0.mk A580
                      clear A580
                      replace H := Option.bind_eq_some_iff.mp H
                      obtain ⟨t709, A590, H⟩ := H
                      replace H : ((steelyardkeep_Nat.f kj3 t706 t709).bind fun t712 => (steelyardlaw01_NatOrder.j1 kj3 l0 l1 t674 ((t674 == 0) != t712))) = some r := H
                      have A59 := Aside0.mk A590
                      clear A590
                      replace H := Option.bind_eq_some_iff.mp H
                      obtain ⟨t712, A600, H⟩ := H
                      replace H : (steelyardlaw01_NatOrder.j1 kj3 l0 l1 t674 ((t674 == 0) != t712)) = some r := H
                      have A60 := Aside0.mk A600
                      clear A600
                      have H' := Aside0.mk H
                      clear H
                      go_wp2_with (first | (go_at_call 32; (with_reducible refine (nat_Cmp.calls kj3 _ _ l1 _ _ l0 t677 _ ?side1 ?side2 ?side3 ?side4 A19.out).mono ?_); (case side1 => repeat (first | exact (Kd.C_below HR1.out HB.out) | (with_reducible refine Kd.C_alloc ?_ _) | (with_reducible refine Kd.C_drewN ?_ _) | (with_reducible refine Kd.C_drew ?_))); (case side2 => exact HC1.out); (case side3 => repeat (first | exact (Kd.C_below HR0.out HB.out) | (with_reducible refine Kd.C_alloc ?_ _) | (with_reducible refine Kd.C_drewN ?_ _) | (with_reducible refine Kd.C_drew ?_))); (case side4 => exact HC0.out); clear A19; rintro e w' ⟨rfl, ⟨nd, rfl⟩⟩) | (go_at_call 25; (with_reducible refine (nat_Trim.calls kj3 _ _ l0 t706 _ ?side1 ?side2 A58.out).mono ?_); (case side1 => repeat (first | exact (Kd.C_below HR0.out (by repeat (first | (with_reducible first | exact HB.out | apply below_alloc | apply pw_below_drewN | apply below_drew1) | exact HB.out))) | (with_reducible refine Kd.C_alloc ?_ _) | (with_reducible refine Kd.C_drewN ?_ _) | (with_reducible refine Kd.C_drew ?_))); (case side2 => exact HC0.out); clear A58; rintro e w61 ⟨v707, rfl, ho0, hb⟩; have n0_ := Aside0.mk (Kd.R_lower ho0 (below_size (by repeat (first | (with_reducible first | exact HB.out | apply below_alloc | apply pw_below_drewN | apply below_drew1) | exact HB.out)))); have n1_ := Aside0.mk (below_step (by repeat (first | (with_reducible first | exact HB.out | apply below_alloc | apply pw_below_drewN | apply below_drew1) | exact HB.out)) hb); clear HB; have HO708 := n0_; have HB := n1_; clear n0_ n1_; (try clear hb); (try clear hb2); (try clear hk); (try clear hi); (try clear ho0)) | (go_at_call 25; (with_reducible refine (nat_Trim.calls kj3 _ _ l1 t709 _ ?side1 ?side2 A59.out).mono ?_); (case side1 => repeat (first | exact (Kd.C_below HR1.out HB.out) | (with_reducible refine Kd.C_alloc ?_ _) | (with_reducible refine Kd.C_drewN ?_ _) | (with_reducible refine Kd.C_drew ?_))); (case side2 => exact HC1.out); clear A59; rintro e w62 ⟨v710, rfl, ho0, hb⟩; have n0_ := Aside0.mk (Kd.R_elder' (by (with_reducible repeat (first | apply Kd.R_alloc | apply Kd.R_drewN | apply Kd.R_drew)); exact HO708.out) (Kd.R_base ho0) hb); have n1_ := Aside0.mk (Kd.R_lower (Kd.R_new' ho0 (Kd.R_lt (by (with_reducible repeat (first | apply Kd.R_alloc | apply Kd.R_drewN | apply Kd.R_drew)); exact HO708.out))) (below_size (by repeat (first | (with_reducible first | exact HB.out | apply below_alloc | apply pw_below_drewN | apply below_drew1) | exact HB.out)))); have n2_ := Aside0.mk (below_step (by repeat (first | (with_reducible first | exact HB.out | apply below_alloc | apply pw_below_drewN | apply below_drew1) | exact HB.out)) hb); clear HO708; clear HB; have HO708 := n0_; have HO711 := n1_; have HB := n2_; clear n0_ n1_ n2_; (try clear hb); (try clear hb2); (try clear hk); (try clear hi); (try clear ho0); obtain ⟨Ao63, co63, eo63⟩ := Kd.R_slice HO708.out; subst eo63; obtain ⟨Ao64, co64, eo64⟩ := Kd.R_slice HO711.out; subst eo64) | (go_at_call 17; (with_reducible refine (steelyardkeep_Nat.calls kj3 _ _ t706 _ _ t709 t712 _ ?side1 ?side2 ?side3 ?side4 A60.out).mono ?_); (case side1 => repeat (first | exact (Kd.R_reads' HO708.out).2.2 | (with_reducible refine Kd.C_alloc ?_ _) | (with_reducible refine Kd.C_drewN ?_ _) | (with_reducible refine Kd.C_drew ?_))); (case side2 => exact (Kd.R_reads' HO708.out).2.1); (case side3 => repeat (first | exact (Kd.R_reads' HO711.out).2.2 | (with_reducible refine Kd.C_alloc ?_ _) | (with_reducible refine Kd.C_drewN ?_ _) | (with_reducible refine Kd.C_drew ?_))); (case side4 => exact (Kd.R_reads' HO711.out).2.1); clear A60; rintro e w' ⟨rfl, ⟨nd, rfl⟩⟩))
                      go_meet
                      case rel => exact ⟨_, (((t674 == 0) != t712)), (by first | rfl | (simp; done) | (simp [*]; done)), H', ⟨by have := HJ3.out; first | omega | exact Nat.le_refl _⟩, ⟨by repeat (first | (with_reducible first | exact HB.out | apply below_alloc | apply pw_below_drewN | apply below_drew1) | exact HB.out)⟩⟩
                    · rw [if_neg c57] at H
                      have c57b0 : (t676 == t675) = false := beq_eq_false_iff_ne.mpr c57
                      have c57b1 : (t676 != t675) = true := bne_iff_ne.mpr c57
                      have H' := Aside0.mk H
                      clear H
                      go_wp2_with (first | (go_at_call 32; (with_reducible refine (nat_Cmp.calls kj3 _ _ l1 _ _ l0 t677 _ ?side1 ?side2 ?side3 ?side4 A19.out).mono ?_); (case side1 => repeat (first | exact (Kd.C_below HR1.out HB.out) | (with_reducible refine Kd.C_alloc ?_ _) | (with_reducible refine Kd.C_drewN ?_ _) | (with_reducible refine Kd.C_drew ?_))); (case side2 => exact HC1.out); (case side3 => repeat (first | exact (Kd.C_below HR0.out HB.out) | (with_reducible refine Kd.C_alloc ?_ _) | (with_reducible refine Kd.C_drewN ?_ _) | (with_reducible refine Kd.C_drew ?_))); (case side4 => exact HC0.out); clear A19; rintro e w' ⟨rfl, ⟨nd, rfl⟩⟩))
                      go_meet
                      case rel => exact ⟨_, (true), (by first | rfl | (simp; done) | (simp [*]; done)), H', ⟨by have := HJ3.out; first | omega | exact Nat.le_refl _⟩, ⟨by repeat (first | (with_reducible first | exact HB.out | apply below_alloc | apply pw_below_drewN | apply below_drew1) | exact HB.out)⟩⟩
                  · rw [if_neg c56] at H
                    have c56b0 : (t674 == 0) = false := beq_eq_false_iff_ne.mpr c56
                    have c56b1 : (t674 != 0) = true := bne_iff_ne.mpr c56
                    replace H := Option.bind_eq_some_iff.mp H
                    obtain ⟨t713, A650, H⟩ := H
                    replace H : ((nat_Trim.f kj3 l1).bind fun t716 => ((steelyardkeep_Nat.f kj3 t713 t716).bind fun t719 => (steelyardlaw01_NatOrder.j1 kj3 l0 l1 t674 ((t674 == 0) != t719)))) = some r := H
                    have A65 := Aside0.mk A650
                    clear A650
                    replace H := Option.bind_eq_some_iff.mp H
                    obtain ⟨t716, A660, H⟩ := H
                    replace H : ((steelyardkeep_Nat.f kj3 t713 t716).bind fun t719 => (steelyardlaw01_NatOrder.j1 kj3 l0 l1 t674 ((t674 == 0) != t719))) = some r := H
                    have A66 := Aside0.mk A660
                    clear A660
                    replace H := Option.bind_eq_some_iff.mp H
                    obtain ⟨t719, A670, H⟩ := H
                    replace H : (steelyardlaw01_NatOrder.j1 kj3 l0 l1 t674 ((t674 == 0) != t719)) = some r := H
                    have A67 := Aside0.mk A670
                    clear A670
                    have H' := Aside0.mk H
                    clear H
                    go_wp2_with (first | (go_at_call 32; (with_reducible refine (nat_Cmp.calls kj3 _ _ l1 _ _ l0 t677 _ ?side1 ?side2 ?side3 ?side4 A19.out).mono ?_); (case side1 => repeat (first | exact (Kd.C_below HR1.out HB.out) | (with_reducible refine Kd.C_alloc ?_ _) | (with_reducible refine Kd.C_drewN ?_ _) | (with_reducible refine Kd.C_drew ?_))); (case side2 => exact HC1.out); (case side3 => repeat (first | exact (Kd.C_below HR0.out HB.out) | (with_reducible refine Kd.C_alloc ?_ _) | (with_reducible refine Kd.C_drewN ?_ _) | (with_reducible refine Kd.C_drew ?_))); (case side4 => exact HC0.out); clear A19; rintro e w' ⟨rfl, ⟨nd, rfl⟩⟩) | (go_at_call 25; (with_reducible refine (nat_Trim.calls kj3 _ _ l0 t713 _ ?side1 ?side2 A65.out).mono ?_); (case side1 => repeat (first | exact (Kd.C_below HR0.out (by repeat (first | (with_reducible first | exact HB.out | apply below_alloc | apply pw_below_drewN | apply below_drew1) | exact HB.out))) | (with_reducible refine Kd.C_alloc ?_ _) | (with_reducible refine Kd.C_drewN ?_ _) | (with_reducible refine Kd.C_drew ?_))); (case side2 => exact HC0.out); clear A65; rintro e w68 ⟨v714, rfl, ho0, hb⟩; have n0_ := Aside0.mk (Kd.R_lower ho0 (below_size (by repeat (first | (with_reducible first | exact HB.out | apply below_alloc | apply pw_below_drewN | apply below_drew1) | exact HB.out)))); have n1_ := Aside0.mk (below_step (by repeat (first | (with_reducible first | exact HB.out | apply below_alloc | apply pw_below_drewN | apply below_drew1) | exact HB.out)) hb); clear HB; have HO715 := n0_; have HB := n1_; clear n0_ n1_; (try clear hb); (try clear hb2); (try clear hk); (try clear hi); (try clear ho0)) | (go_at_call 25; (with_reducible refine (nat_Trim.calls kj3 _ _ l1 t716 _ ?side1 ?side2 A66.out).mono ?_); (case side1 => repeat (first | exact (Kd.C_below HR1.out HB.out) | (with_reducible refine Kd.C_alloc ?_ _) | (with_reducible refine Kd.C_drewN ?_ _) | (with_reducible refine Kd.C_drew ?_))); (case side2 => exact HC1.out); clear A66; rintro e w69 ⟨v717, rfl, ho0, hb⟩; have n0_ := Aside0.mk (Kd.R_elder' (by (with_reducible repeat (first | apply Kd.R_alloc | apply Kd.R_drewN | apply Kd.R_drew)); exact HO715.out) (Kd.R_base ho0) hb); have n1_ := Aside0.mk (Kd.R_lower (Kd.R_new' ho0 (Kd.R_lt (by (with_reducible repeat (first | apply Kd.R_alloc | apply Kd.R_drewN | apply Kd.R_drew)); exact HO715.out))) (below_size (by repeat (first | (with_reducible first | exact HB.out | apply below_alloc | apply pw_below_drewN | apply below_drew1) | exact HB.out)))); have n2_ := Aside0.mk (below_step (by repeat (first | (with_reducible first | exact HB.out | apply below_alloc | apply pw_below_drewN | apply below_drew1) | exact HB.out)) hb); clear HO715; clear HB; have HO715 := n0_; have HO718 := n1_; have HB := n2_; clear n0_ n1_ n2_; (try clear hb); (try clear hb2); (try clear hk); (try clear hi); (try clear ho0); obtain ⟨Ao70, co70, eo70⟩ := Kd.R_slice HO715.out; subst eo70; obtain ⟨Ao71, co71, eo71⟩ := Kd.R_slice HO718.out; subst eo71) | (go_at_call 17; (with_reducible refine (steelyardkeep_Nat.calls kj3 _ _ t713 _ _ t716 t719 _ ?side1 ?side2 ?side3 ?side4 A67.out).mono ?_); (case side1 => repeat (first | exact (Kd.R_reads' HO715.out).2.2 | (with_reducible refine Kd.C_alloc ?_ _) | (with_reducible refine Kd.C_drewN ?_ _) | (with_reducible refine Kd.C_drew ?_))); (case side2 => exact (Kd.R_reads' HO715.out).2.1); (case side3 => repeat (first | exact (Kd.R_reads' HO718.out).2.2 | (with_reducible refine Kd.C_alloc ?_ _) | (with_reducible refine Kd.C_drewN ?_ _) | (with_reducible refine Kd.C_drew ?_))); (case side4 => exact (Kd.R_reads' HO718.out).2.1); clear A67; rintro e w' ⟨rfl, ⟨nd, rfl⟩⟩))
                    go_meet
                    case rel => exact ⟨_, (((t674 == 0) != t719)), (by first | rfl | (simp; done) | (simp [*]; done)), H', ⟨by have := HJ3.out; first | omega | exact Nat.le_refl _⟩, ⟨by repeat (first | (with_reducible first | exact HB.out | apply below_alloc | apply pw_below_drewN | apply below_drew1) | exact HB.out)⟩⟩
              · rw [if_neg c20] at H
                have c20b0 : (t677 == (wrap64 (-t674))) = false := beq_eq_false_iff_ne.mpr c20
                have c20b1 : (t677 != (wrap64 (-t674))) = true := bne_iff_ne.mpr c20
                have H' := Aside0.mk H
                clear H
                go_wp2_with (first | (go_at_call 32; (with_reducible refine (nat_Cmp.calls kj3 _ _ l1 _ _ l0 t677 _ ?side1 ?side2 ?side3 ?side4 A19.out).mono ?_); (case side1 => repeat (first | exact (Kd.C_below HR1.out HB.out) | (with_reducible refine Kd.C_alloc ?_ _) | (with_reducible refine Kd.C_drewN ?_ _) | (with_reducible refine Kd.C_drew ?_))); (case side2 => exact HC1.out); (case side3 => repeat (first | exact (Kd.C_below HR0.out HB.out) | (with_reducible refine Kd.C_alloc ?_ _) | (with_reducible refine Kd.C_drewN ?_ _) | (with_reducible refine Kd.C_drew ?_))); (case side4 => exact HC0.out); clear A19; rintro e w' ⟨rfl, ⟨nd, rfl⟩⟩))
                go_meet
                case rel => exact ⟨_, (true), (by first | rfl | (simp; done) | (simp [*]; done)), H', ⟨by have := HJ3.out; first | omega | exact Nat.le_refl _⟩, ⟨by repeat (first | (with_reducible first | exact HB.out | apply below_alloc | apply pw_below_drewN | apply below_drew1) | exact HB.out)⟩⟩
        case rest =>
          clear HC16
          try clear c1
          try clear c2
          try clear p2
          try clear c3
          try clear c4
          try clear c5
          try clear c6
          try clear p6
          try clear c8
          try clear c10
          try clear c12
          try clear c17
          try clear c17b0
          try clear c18
          try clear c18b0
          try clear c20
          try clear c20b0
          try clear c20b1
          try clear c21
          try clear c21b0
          try clear c22
          try clear c22b0
          try clear c23
          try clear c23b0
          try clear c24
          try clear c24b0
          try clear c24b1
          try clear c25
          try clear c25b0
          try clear c25b1
          try clear c28
          try clear c32
          try clear c40
          try clear c40b0
          try clear c40b1
          try clear c41
          try clear c41b0
          try clear c41b1
          try clear c56
          try clear c56b0
          try clear c56b1
          try clear c57
          try clear c57b0
          try clear c57b1
          try clear p64
          try clear p2
          obtain ⟨kq, x75_15, rfl, HA, HJ15, HB⟩ := hcut
          cases kq with
          | zero => exact absurd HA.out (by simp [steelyardlaw01_NatOrder.j1])
          | succ kj15 =>
            have H := HA.out
            clear HA
            simp only [steelyardlaw01_NatOrder.j1] at H
            by_cases c72 : x75_15 = true
            · subst c72
              have H1 : (none) = some r := by rw [if_pos rfl] at H; exact H
              clear H
              have H := H1
              clear H1
              exact absurd H (by simp)
            · replace c72 := Bool.eq_false_iff.mpr c72
              subst c72
              have H1 : ((nat_Bits.f kj15 l0).bind fun t720 => (if t720 > 0 then ((nat_Bit.f l0 (wrap64 (t720 - 1))).bind fun t721 => (if t721 = true then ((nat_Bit.f l0 t720).bind fun t722 => (if t722 = true then (steelyardlaw01_NatOrder.j2 kj15 l0 l1 t674 true) else ((nat_Trim.f kj15 l0).bind fun t723 => (steelyardlaw01_NatOrder.j2 kj15 l0 l1 t674 ((t720 == 0) != ((t723.length : Int) == 0)))))) else (steelyardlaw01_NatOrder.j2 kj15 l0 l1 t674 true))) else ((nat_Bit.f l0 t720).bind fun t726 => (if t726 = true then (steelyardlaw01_NatOrder.j2 kj15 l0 l1 t674 true) else ((nat_Trim.f kj15 l0).bind fun t727 => (steelyardlaw01_NatOrder.j2 kj15 l0 l1 t674 ((t720 == 0) != ((t727.length : Int) == 0)))))))) = some r := by rw [if_neg (show ¬ (false = true) by decide)] at H; exact H
              clear H
              have H := H1
              clear H1
              replace H := Option.bind_eq_some_iff.mp H
              obtain ⟨t720, A730, H⟩ := H
              replace H : (if t720 > 0 then ((nat_Bit.f l0 (wrap64 (t720 - 1))).bind fun t721 => (if t721 = true then ((nat_Bit.f l0 t720).bind fun t722 => (if t722 = true then (steelyardlaw01_NatOrder.j2 kj15 l0 l1 t674 true) else ((nat_Trim.f kj15 l0).bind fun t723 => (steelyardlaw01_NatOrder.j2 kj15 l0 l1 t674 ((t720 == 0) != ((t723.length : Int) == 0)))))) else (steelyardlaw01_NatOrder.j2 kj15 l0 l1 t674 true))) else ((nat_Bit.f l0 t720).bind fun t726 => (if t726 = true then (steelyardlaw01_NatOrder.j2 kj15 l0 l1 t674 true) else ((nat_Trim.f kj15 l0).bind fun t727 => (steelyardlaw01_NatOrder.j2 kj15 l0 l1 t674 ((t720 == 0) != ((t727.length : Int) == 0))))))) = some r := H
              have A73 := Aside0.mk A730
              clear A730
              have HC74 := Aside0.mk H
              clear H
              go_upto_region 7 with (first | ((with_reducible refine gate_callee (f := 26) rfl ?_); refine goesL_ (some 77) rfl rfl Try.func26 (by kernel_rfl) rfl #[.slice A0 l0.length c0] rfl (by (try simp only [List.map_toArray, List.map_cons, List.map_nil]); first | done | rfl | (simp only [List.length_drop, List.length_take]; rfl)) ?_; (with_reducible refine (nat_Bits.calls kj15 _ _ l0 t720 _ ?side1 ?side2 A73.out).mono ?_); (case side1 => repeat (first | exact (Kd.C_below HR0.out HB.out) | (with_reducible refine Kd.C_alloc ?_ _) | (with_reducible refine Kd.C_drewN ?_ _) | (with_reducible refine Kd.C_drew ?_))); (case side2 => exact HC0.out); rintro e w' ⟨rfl, ⟨nd, rfl⟩⟩; refine ⟨_, rfl, ?_⟩))
              (try simp only [Act.put, List.setIfInBounds_toArray, List.set_cons_zero, List.set_cons_succ])
              go_cut [100] (fun v100 wc => ∃ (kq : Nat) (x100_73 : Bool), v100 = .bool x100_73 ∧ Aside0 (steelyardlaw01_NatOrder.j2 kq l0 l1 t674 x100_73 = some r) ∧ Aside0 (kq ≤ kj15) ∧ Aside0 (Below w.heap.size w wc))
              case first =>
                have H := HC74.out
                clear HC74
                by_cases c75 : t720 > 0
                · rw [if_pos c75] at H
                  have c75b0 : decide (0 < t720) = true := decide_eq_true c75
                  clear c75
                  (first | rw [c75b0] | (simp only [i64_w, i32_w]; rw [c75b0]) | skip)
                  replace H := Option.bind_eq_some_iff.mp H
                  obtain ⟨t721, A760, H⟩ := H
                  replace H : (if t721 = true then ((nat_Bit.f l0 t720).bind fun t722 => (if t722 = true then (steelyardlaw01_NatOrder.j2 kj15 l0 l1 t674 true) else ((nat_Trim.f kj15 l0).bind fun t723 => (steelyardlaw01_NatOrder.j2 kj15 l0 l1 t674 ((t720 == 0) != ((t723.length : Int) == 0)))))) else (steelyardlaw01_NatOrder.j2 kj15 l0 l1 t674 true)) = some r := H
                  have A76 := Aside0.mk A760
                  clear A760
                  by_cases c77 : t721 = true
                  · subst c77
                    have H1 : ((nat_Bit.f l0 t720).bind fun t722 => (if t722 = true then (steelyardlaw01_NatOrder.j2 kj15 l0 l1 t674 true) else ((nat_Trim.f kj15 l0).bind fun t723 => (steelyardlaw01_NatOrder.j2 kj15 l0 l1 t674 ((t720 == 0) != ((t723.length : Int) == 0)))))) = some r := by rw [if_pos rfl] at H; exact H
                    clear H
                    have H := H1
                    clear H1
                    replace H := Option.bind_eq_some_iff.mp H
                    obtain ⟨t722, A780, H⟩ := H
                    replace H : (if t722 = true then (steelyardlaw01_NatOrder.j2 kj15 l0 l1 t674 true) else ((nat_Trim.f kj15 l0).bind fun t723 => (steelyardlaw01_NatOrder.j2 kj15 l0 l1 t674 ((t720 == 0) != ((t723.length : Int) == 0))))) = some r := H
                    have A78 := Aside0.mk A780
                    clear A780
                    by_cases c79 : t722 = true
                    · subst c79
                      have H1 : (steelyardlaw01_NatOrder.j2 kj15 l0 l1 t674 true) = some r := by rw [if_pos rfl] at H; exact H
                      clear H
                      have H := H1
                      clear H1
                      have H' := Aside0.mk H
                      clear H
                      go_wp2_with (first | (go_at_call 27; (with_reducible refine (nat_Bit.calls _ _ l0 (wrap64 (t720 - 1)) true _ ?side1 ?side2 A76.out).mono ?_); (case side1 => repeat (first | exact (Kd.C_below HR0.out HB.out) | (with_reducible refine Kd.C_alloc ?_ _) | (with_reducible refine Kd.C_drewN ?_ _) | (with_reducible refine Kd.C_drew ?_))); (case side2 => exact HC0.out); clear A76; rintro e w' ⟨rfl, ⟨nd, rfl⟩⟩) | (go_at_call 27; (with_reducible refine (nat_Bit.calls _ _ l0 t720 true _ ?side1 ?side2 A78.out).mono ?_); (case side1 => repeat (first | exact (Kd.C_below HR0.out (by repeat (first | (with_reducible first | exact HB.out | apply below_alloc | apply pw_below_drewN | apply below_drew1) | exact HB.out))) | (with_reducible refine Kd.C_alloc ?_ _) | (with_reducible refine Kd.C_drewN ?_ _) | (with_reducible refine Kd.C_drew ?_))); (case side2 => exact HC0.out); clear A78; rintro e w' ⟨rfl, ⟨nd, rfl⟩⟩))
                      go_meet
                      case rel => exact ⟨_, (true), (by first | rfl | (simp; done) | (simp [*]; done)), H', ⟨by have := HJ3.out; have := HJ15.out; first | omega | exact Nat.le_refl _⟩, ⟨by repeat (first | (with_reducible first | exact HB.out | apply below_alloc | apply pw_below_drewN | apply below_drew1) | exact HB.out)⟩⟩
                    · replace c79 := Bool.eq_false_iff.mpr c79
                      subst c79
                      have H1 : ((nat_Trim.f kj15 l0).bind fun t723 => (steelyardlaw01_NatOrder.j2 kj15 l0 l1 t674 ((t720 == 0) != ((t723.length : Int) == 0)))) = some r := by rw [if_neg (show ¬ (false = true) by decide)] at H; exact H
                      clear H
                      have H := H1
                      clear H1
                      replace H := Option.bind_eq_some_iff.mp H
                      obtain ⟨t723, A800, H⟩ := H
                      replace H : (steelyardlaw01_NatOrder.j2 kj15 l0 l1 t674 ((t720 == 0) != ((t723.length : Int) == 0))) = some r := H
                      have A80 := Aside0.mk A800
                      clear A800
                      have H' := Aside0.mk H
                      clear H
                      go_wp2_with (first | (go_at_call 27; (with_reducible refine (nat_Bit.calls _ _ l0 (wrap64 (t720 - 1)) true _ ?side1 ?side2 A76.out).mono ?_); (case side1 => repeat (first | exact (Kd.C_below HR0.out HB.out) | (with_reducible refine Kd.C_alloc ?_ _) | (with_reducible refine Kd.C_drewN ?_ _) | (with_reducible refine Kd.C_drew ?_))); (case side2 => exact HC0.out); clear A76; rintro e w' ⟨rfl, ⟨nd, rfl⟩⟩) | (go_at_call 27; (with_reducible refine (nat_Bit.calls _ _ l0 t720 false _ ?side1 ?side2 A78.out).mono ?_); (case side1 => repeat (first | exact (Kd.C_below HR0.out (by repeat (first | (with_reducible first | exact HB.out | apply below_alloc | apply pw_below_drewN | apply below_drew1) | exact HB.out))) | (with_reducible refine Kd.C_alloc ?_ _) | (with_reducible refine Kd.C_drewN ?_ _) | (with_reducible refine Kd.C_drew ?_))); (case side2 => exact HC0.out); clear A78; rintro e w' ⟨rfl, ⟨nd, rfl⟩⟩) | (go_at_call 25; (with_reducible refine (nat_Trim.calls kj15 _ _ l0 t723 _ ?side1 ?side2 A80.out).mono ?_); (case side1 => repeat (first | exact (Kd.C_below HR0.out (by repeat (first | (with_reducible first | exact HB.out | apply below_alloc | apply pw_below_drewN | apply below_drew1) | exact HB.out))) | (with_reducible refine Kd.C_alloc ?_ _) | (with_reducible refine Kd.C_drewN ?_ _) | (with_reducible refine Kd.C_drew ?_))); (case side2 => exact HC0.out); clear A80; rintro e w81 ⟨v724, rfl, ho0, hb⟩; have n0_ := Aside0.mk (Kd.R_lower ho0 (below_size (by repeat (first | (with_reducible first | exact HB.out | apply below_alloc | apply pw_below_drewN | apply below_drew1) | exact HB.out)))); have n1_ := Aside0.mk (below_step (by repeat (first | (with_reducible first | exact HB.out | apply below_alloc | apply pw_below_drewN | apply below_drew1) | exact HB.out)) hb); clear HB; have HO725 := n0_; have HB := n1_; clear n0_ n1_; (try clear hb); (try clear hb2); (try clear hk); (try clear hi); (try clear ho0); obtain ⟨Ao82, co82, eo82⟩ := Kd.R_slice HO725.out; subst eo82))
                      go_meet
                      case rel => exact ⟨_, (((t720 == 0) != ((t723.length : Int) == 0))), (by first | rfl | (simp; done) | (simp [*]; done)), H', ⟨by have := HJ3.out; have := HJ15.out; first | omega | exact Nat.le_refl _⟩, ⟨by repeat (first | (with_reducible first | exact HB.out | apply below_alloc | apply pw_below_drewN | apply below_drew1) | exact HB.out)⟩⟩
                  · replace c77 := Bool.eq_false_iff.mpr c77
                    subst c77
                    have H1 : (steelyardlaw01_NatOrder.j2 kj15 l0 l1 t674 true) = some r := by rw [if_neg (show ¬ (false = true) by decide)] at H; exact H
                    clear H
                    have H := H1
                    clear H1
                    have H' := Aside0.mk H
                    clear H
                    go_wp2_with (first | (go_at_call 27; (with_reducible refine (nat_Bit.calls _ _ l0 (wrap64 (t720 - 1)) false _ ?side1 ?side2 A76.out).mono ?_); (case side1 => repeat (first | exact (Kd.C_below HR0.out HB.out) | (with_reducible refine Kd.C_alloc ?_ _) | (with_reducible refine Kd.C_drewN ?_ _) | (with_reducible refine Kd.C_drew ?_))); (case side2 => exact HC0.out); clear A76; rintro e w' ⟨rfl, ⟨nd, rfl⟩⟩))
                    go_meet
                    case rel => exact ⟨_, (true), (by first | rfl | (simp; done) | (simp [*]; done)), H', ⟨by have := HJ3.out; have := HJ15.out; first | omega | exact Nat.le_refl _⟩, ⟨by repeat (first | (with_reducible first | exact HB.out | apply below_alloc | apply pw_below_drewN | apply below_drew1) | exact HB.out)⟩⟩
                · rw [if_neg c75] at H
                  have c75b0 : decide (0 < t720) = false := decide_eq_false c75
                  clear c75
                  (first | rw [c75b0] | (simp only [i64_w, i32_w]; rw [c75b0]) | skip)
                  replace H := Option.bind_eq_some_iff.mp H
                  obtain ⟨t726, A830, H⟩ := H
                  replace H : (if t726 = true then (steelyardlaw01_NatOrder.j2 kj15 l0 l1 t674 true) else ((nat_Trim.f kj15 l0).bind fun t727 => (steelyardlaw01_NatOrder.j2 kj15 l0 l1 t674 ((t720 == 0) != ((t727.length : Int) == 0))))) = some r := H
                  have A83 := Aside0.mk A830
                  clear A830
                  by_cases c84 : t726 = true
                  · subst c84
                    have H1 : (steelyardlaw01_NatOrder.j2 kj15 l0 l1 t674 true) = some r := by rw [if_pos rfl] at H; exact H
                    clear H
                    have H := H1
                    clear H1
                    have H' := Aside0.mk H
                    clear H
                    go_wp2_with (first | (go_at_call 27; (with_reducible refine (nat_Bit.calls _ _ l0 t720 true _ ?side1 ?side2 A83.out).mono ?_); (case side1 => repeat (first | exact (Kd.C_below HR0.out HB.out) | (with_reducible refine Kd.C_alloc ?_ _) | (with_reducible refine Kd.C_drewN ?_ _) | (with_reducible refine Kd.C_drew ?_))); (case side2 => exact HC0.out); clear A83; rintro e w' ⟨rfl, ⟨nd, rfl⟩⟩))
                    go_meet
                    case rel => exact ⟨_, (true), (by first | rfl | (simp; done) | (simp [*]; done)), H', ⟨by have := HJ3.out; have := HJ15.out; first | omega | exact Nat.le_refl _⟩, ⟨by repeat (first | (with_reducible first | exact HB.out | apply below_alloc | apply pw_below_drewN | apply below_drew1) | exact HB.out)⟩⟩
                  · replace c84 := Bool.eq_false_iff.mpr c84
                    subst c84
                    have H1 : ((nat_Trim.f kj15 l0).bind fun t727 => (steelyardlaw01_NatOrder.j2 kj15 l0 l1 t674 ((t720 == 0) != ((t727.length : Int) == 0)))) = some r := by rw [if_neg (show ¬ (false = true) by decide)] at H; exact H
                    clear H
                    have H := H1
                    clear H1
                    replace H := Option.bind_eq_some_iff.mp H
                    obtain ⟨t727, A850, H⟩ := H
                    replace H : (steelyardlaw01_NatOrder.j2 kj15 l0 l1 t674 ((t720 == 0) != ((t727.length : Int) == 0))) = some r := H
                    have A85 := Aside0.mk A850
                    clear A850
                    have H' := Aside0.mk H
                    clear H
                    go_wp2_with (first | (go_at_call 27; (with_reducible refine (nat_Bit.calls _ _ l0 t720 false _ ?side1 ?side2 A83.out).mono ?_); (case side1 => repeat (first | exact (Kd.C_below HR0.out HB.out) | (with_reducible refine Kd.C_alloc ?_ _) | (with_reducible refine Kd.C_drewN ?_ _) | (with_reducible refine Kd.C_drew ?_))); (case side2 => exact HC0.out); clear A83; rintro e w' ⟨rfl, ⟨nd, rfl⟩⟩) | (go_at_call 25; (with_reducible refine (nat_Trim.calls kj15 _ _ l0 t727 _ ?side1 ?side2 A85.out).mono ?_); (case side1 => repeat (first | exact (Kd.C_below HR0.out (by repeat (first | (with_reducible first | exact HB.out | apply below_alloc | apply pw_below_drewN | apply below_drew1) | exact HB.out))) | (with_reducible refine Kd.C_alloc ?_ _) | (with_reducible refine Kd.C_drewN ?_ _) | (with_reducible refine Kd.C_drew ?_))); (case side2 => exact HC0.out); clear A85; rintro e w86 ⟨v728, rfl, ho0, hb⟩; have n0_ := Aside0.mk (Kd.R_lower ho0 (below_size (by repeat (first | (with_reducible first | exact HB.out | apply below_alloc | apply pw_below_drewN | apply below_drew1) | exact HB.out)))); have n1_ := Aside0.mk (below_step (by repeat (first | (with_reducible first | exact HB.out | apply below_alloc | apply pw_below_drewN | apply below_drew1) | exact HB.out)) hb); clear HB; have HO729 := n0_; have HB := n1_; clear n0_ n1_; (try clear hb); (try clear hb2); (try clear hk); (try clear hi); (try clear ho0); obtain ⟨Ao87, co87, eo87⟩ := Kd.R_slice HO729.out; subst eo87))
                    go_meet
                    case rel => exact ⟨_, (((t720 == 0) != ((t727.length : Int) == 0))), (by first | rfl | (simp; done) | (simp [*]; done)), H', ⟨by have := HJ3.out; have := HJ15.out; first | omega | exact Nat.le_refl _⟩, ⟨by repeat (first | (with_reducible first | exact HB.out | apply below_alloc | apply pw_below_drewN | apply below_drew1) | exact HB.out)⟩⟩
              case rest =>
                clear HC74
                try clear c1
                try clear c2
                try clear p2
                try clear c3
                try clear c4
                try clear c5
                try clear c6
                try clear p6
                try clear c7
                try clear c8
                try clear c10
                try clear c12
                try clear c17
                try clear c17b0
                try clear c18
                try clear c18b0
                try clear c20
                try clear c20b0
                try clear c20b1
                try clear c21
                try clear c21b0
                try clear c22
                try clear c22b0
                try clear c23
                try clear c23b0
                try clear c24
                try clear c24b0
                try clear c24b1
                try clear c25
                try clear c25b0
                try clear c25b1
                try clear c26
                try clear c28
                try clear c32
                try clear c40
                try clear c40b0
                try clear c40b1
                try clear c41
                try clear c41b0
                try clear c41b1
                try clear c56
                try clear c56b0
                try clear c56b1
                try clear c57
                try clear c57b0
                try clear c57b1
                try clear p64
                try clear c72
                try clear c75
                try clear c75b0
                try clear c77
                try clear c79
                try clear c84
                try clear p2
                try clear p6
                try clear p64
                obtain ⟨kq, x100_73, rfl, HA, HJ73, HB⟩ := hcut
                cases kq with
                | zero => exact absurd HA.out (by simp [steelyardlaw01_NatOrder.j2])
                | succ kj73 =>
                  have H := HA.out
                  clear HA
                  simp only [steelyardlaw01_NatOrder.j2] at H
                  by_cases c88 : x100_73 = true
                  · subst c88
                    have H1 : (none) = some r := by rw [if_pos rfl] at H; exact H
                    clear H
                    have H := H1
                    clear H1
                    exact absurd H (by simp)
                  · replace c88 := Bool.eq_false_iff.mpr c88
                    subst c88
                    have H1 : ((nat_Bits.f kj73 l0).bind fun t730 => ((nat_Bits.f kj73 l1).bind fun t731 => (if t730 ≥ t731 then ((steelyardlaw01_wakes.f kj73).bind fun t732 => (some t732)) else (if t674 < 0 then ((steelyardlaw01_wakes.f kj73).bind fun t733 => (some t733)) else (none))))) = some r := by rw [if_neg (show ¬ (false = true) by decide)] at H; exact H
                    clear H
                    have H := H1
                    clear H1
                    replace H := Option.bind_eq_some_iff.mp H
                    obtain ⟨t730, A890, H⟩ := H
                    replace H : ((nat_Bits.f kj73 l1).bind fun t731 => (if t730 ≥ t731 then ((steelyardlaw01_wakes.f kj73).bind fun t732 => (some t732)) else (if t674 < 0 then ((steelyardlaw01_wakes.f kj73).bind fun t733 => (some t733)) else (none)))) = some r := H
                    have A89 := Aside0.mk A890
                    clear A890
                    replace H := Option.bind_eq_some_iff.mp H
                    obtain ⟨t731, A900, H⟩ := H
                    replace H : (if t730 ≥ t731 then ((steelyardlaw01_wakes.f kj73).bind fun t732 => (some t732)) else (if t674 < 0 then ((steelyardlaw01_wakes.f kj73).bind fun t733 => (some t733)) else (none))) = some r := H
                    have A90 := Aside0.mk A900
                    clear A900
                    by_cases c91 : t730 ≥ t731
                    · rw [if_pos c91] at H
                      have c91b0 : decide (t731 ≤ t730) = true := decide_eq_true c91
                      clear c91
                      replace H := Option.bind_eq_some_iff.mp H
                      obtain ⟨t732, A920, H⟩ := H
                      replace H : (some t732) = some r := H
                      have A92 := Aside0.mk A920
                      clear A920
                      obtain rfl := Option.some.inj H
                      go_wp2_with (first | ((with_reducible refine gate_callee (f := 26) rfl ?_); refine goesL_ (some 102) rfl rfl Try.func26 (by kernel_rfl) rfl #[.slice A0 l0.length c0] rfl (by (try simp only [List.map_toArray, List.map_cons, List.map_nil]); first | done | rfl | (simp only [List.length_drop, List.length_take]; rfl)) ?_; (with_reducible refine (nat_Bits.calls kj73 _ _ l0 t730 _ ?side1 ?side2 A89.out).mono ?_); (case side1 => repeat (first | exact (Kd.C_below HR0.out HB.out) | (with_reducible refine Kd.C_alloc ?_ _) | (with_reducible refine Kd.C_drewN ?_ _) | (with_reducible refine Kd.C_drew ?_))); (case side2 => exact HC0.out); rintro e w' ⟨rfl, ⟨nd, rfl⟩⟩; refine ⟨_, rfl, ?_⟩) | ((with_reducible refine gate_callee (f := 26) rfl ?_); refine goesL_ (some 104) rfl rfl Try.func26 (by kernel_rfl) rfl #[.slice A1 l1.length c1] rfl (by (try simp only [List.map_toArray, List.map_cons, List.map_nil]); first | done | rfl | (simp only [List.length_drop, List.length_take]; rfl)) ?_; (with_reducible refine (nat_Bits.calls kj73 _ _ l1 t731 _ ?side1 ?side2 A90.out).mono ?_); (case side1 => repeat (first | exact (Kd.C_below HR1.out (by repeat (first | (with_reducible first | exact HB.out | apply below_alloc | apply pw_below_drewN | apply below_drew1) | exact HB.out))) | (with_reducible refine Kd.C_alloc ?_ _) | (with_reducible refine Kd.C_drewN ?_ _) | (with_reducible refine Kd.C_drew ?_))); (case side2 => exact HC1.out); rintro e w' ⟨rfl, ⟨nd, rfl⟩⟩; refine ⟨_, rfl, ?_⟩) | (go_at_call 28; (with_reducible refine (steelyardlaw01_wakes.calls kj73  t732 _ A92.out).mono ?_); clear A92; rintro e w93 ⟨rfl, hb⟩; have n0_ := Aside0.mk (below_step (by repeat (first | (with_reducible first | exact HB.out | apply below_alloc | apply pw_below_drewN | apply below_drew1) | exact HB.out)) hb); clear HB; have HB := n0_; clear n0_; (try clear hb); (try clear hb2); (try clear hk); (try clear hi)))
                      go_ret
                      exact ⟨by first | rfl | (simp [errW_none, errW_some] <;> rfl) | (simp [*, errW_none, errW_some] <;> rfl), by repeat (first | (with_reducible first | exact HB.out | apply below_alloc | apply pw_below_drewN | apply below_drew1) | exact HB.out)⟩
                    · rw [if_neg c91] at H
                      have c91b0 : decide (t731 ≤ t730) = false := decide_eq_false c91
                      clear c91
                      by_cases c94 : t674 < 0
                      · rw [if_pos c94] at H
                        have c94b0 : decide (t674 < 0) = true := decide_eq_true c94
                        clear c94
                        replace H := Option.bind_eq_some_iff.mp H
                        obtain ⟨t733, A950, H⟩ := H
                        replace H : (some t733) = some r := H
                        have A95 := Aside0.mk A950
                        clear A950
                        obtain rfl := Option.some.inj H
                        go_wp2_with (first | ((with_reducible refine gate_callee (f := 26) rfl ?_); refine goesL_ (some 102) rfl rfl Try.func26 (by kernel_rfl) rfl #[.slice A0 l0.length c0] rfl (by (try simp only [List.map_toArray, List.map_cons, List.map_nil]); first | done | rfl | (simp only [List.length_drop, List.length_take]; rfl)) ?_; (with_reducible refine (nat_Bits.calls kj73 _ _ l0 t730 _ ?side1 ?side2 A89.out).mono ?_); (case side1 => repeat (first | exact (Kd.C_below HR0.out HB.out) | (with_reducible refine Kd.C_alloc ?_ _) | (with_reducible refine Kd.C_drewN ?_ _) | (with_reducible refine Kd.C_drew ?_))); (case side2 => exact HC0.out); rintro e w' ⟨rfl, ⟨nd, rfl⟩⟩; refine ⟨_, rfl, ?_⟩) | ((with_reducible refine gate_callee (f := 26) rfl ?_); refine goesL_ (some 104) rfl rfl Try.func26 (by kernel_rfl) rfl #[.slice A1 l1.length c1] rfl (by (try simp only [List.map_toArray, List.map_cons, List.map_nil]); first | done | rfl | (simp only [List.length_drop, List.length_take]; rfl)) ?_; (with_reducible refine (nat_Bits.calls kj73 _ _ l1 t731 _ ?side1 ?side2 A90.out).mono ?_); (case side1 => repeat (first | exact (Kd.C_below HR1.out (by repeat (first | (with_reducible first | exact HB.out | apply below_alloc | apply pw_below_drewN | apply below_drew1) | exact HB.out))) | (with_reducible refine Kd.C_alloc ?_ _) | (with_reducible refine Kd.C_drewN ?_ _) | (with_reducible refine Kd.C_drew ?_))); (case side2 => exact HC1.out); rintro e w' ⟨rfl, ⟨nd, rfl⟩⟩; refine ⟨_, rfl, ?_⟩) | (go_at_call 28; (with_reducible refine (steelyardlaw01_wakes.calls kj73  t733 _ A95.out).mono ?_); clear A95; rintro e w96 ⟨rfl, hb⟩; have n0_ := Aside0.mk (below_step (by repeat (first | (with_reducible first | exact HB.out | apply below_alloc | apply pw_below_drewN | apply below_drew1) | exact HB.out)) hb); clear HB; have HB := n0_; clear n0_; (try clear hb); (try clear hb2); (try clear hk); (try clear hi)))
                        go_ret
                        exact ⟨by first | rfl | (simp [errW_none, errW_some] <;> rfl) | (simp [*, errW_none, errW_some] <;> rfl), by repeat (first | (with_reducible first | exact HB.out | apply below_alloc | apply pw_below_drewN | apply below_drew1) | exact HB.out)⟩
                      · rw [if_neg c94] at H
                        exact absurd H (by simp)

/-- THE ONE PURE STATEMENT of steelyardlaw01_NatOrder: yours. -/
def steelyardlaw01_NatOrder.Pure : Prop := ∀ (l0 : List Int) (l1 : List Int) (l2 : List Int), l0.length ≤ maxLen → l0.length * 4 ≤ 140737488351232 → (∀ x ∈ l0, (Lit.int .u32 x).wf = true) → l1.length ≤ maxLen → l1.length * 4 ≤ 140737488351232 → (∀ x ∈ l1, (Lit.int .u32 x).wf = true) → l2.length ≤ maxLen → l2.length * 4 ≤ 140737488351232 → (∀ x ∈ l2, (Lit.int .u32 x).wf = true) → ∃ k, steelyardlaw01_NatOrder.f k l0 l1 l2 = some true
theorem steelyardlaw01_NatOrder.walk (P : steelyardlaw01_NatOrder.Pure) (a0 : Option Addr) (len0 cap0 : Nat) (z0 : List Int) (a1 : Option Addr) (len1 cap1 : Nat) (z1 : List Int) (a2 : Option Addr) (len2 cap2 : Nat) (z2 : List Int) (w : World) (w0 : (a0 = none ∧ len0 = 0 ∧ cap0 = 0 ∧ z0 = []) ∨ ∃ x, a0 = some x ∧ len0 ≤ cap0 ∧ cap0 ≤ maxLen ∧ z0.length = cap0 ∧ (∀ i, i < z0.length → w.cell? (x.add i) = some (.int .u32 (z0.getD i 0))) ∧ ∀ n ∈ z0, (Lit.int .u32 n).wf = true) (y0 : len0 * 4 ≤ 140737488351232) (w1 : (a1 = none ∧ len1 = 0 ∧ cap1 = 0 ∧ z1 = []) ∨ ∃ x, a1 = some x ∧ len1 ≤ cap1 ∧ cap1 ≤ maxLen ∧ z1.length = cap1 ∧ (∀ i, i < z1.length → w.cell? (x.add i) = some (.int .u32 (z1.getD i 0))) ∧ ∀ n ∈ z1, (Lit.int .u32 n).wf = true) (y1 : len1 * 4 ≤ 140737488351232) (w2 : (a2 = none ∧ len2 = 0 ∧ cap2 = 0 ∧ z2 = []) ∨ ∃ x, a2 = some x ∧ len2 ≤ cap2 ∧ cap2 ≤ maxLen ∧ z2.length = cap2 ∧ (∀ i, i < z2.length → w.cell? (x.add i) = some (.int .u32 (z2.getD i 0))) ∧ ∀ n ∈ z2, (Lit.int .u32 n).wf = true) (y2 : len2 * 4 ≤ 140737488351232) :
    Calls Try.prog 8 #[.slice a0 len0 cap0, .slice a1 len1 cap1, .slice a2 len2 cap2] w fun e w' => e = .returned (.bool true) ∧ Below w.heap.size w w' := by
  obtain ⟨l0, rfl, hr0, hm0, hw0, hc0⟩ := ReadsInt.ofRowC w0
  obtain ⟨l1, rfl, hr1, hm1, hw1, hc1⟩ := ReadsInt.ofRowC w1
  obtain ⟨l2, rfl, hr2, hm2, hw2, hc2⟩ := ReadsInt.ofRowC w2
  obtain ⟨k, h⟩ := P l0 l1 l2 hm0 y0 hw0 hm1 y1 hw1 hm2 y2 hw2
  refine (steelyardlaw01_NatOrder.calls k _ _ l0 _ _ l1 _ _ l2 true w (Kd.C_of_reads (d := (0 : Int)) (h1 := fun _ => rfl) hr0) hc0 (Kd.C_of_reads (d := (0 : Int)) (h1 := fun _ => rfl) hr1) hc1 (Kd.C_of_reads (d := (0 : Int)) (h1 := fun _ => rfl) hr2) hc2 h).mono ?_
  rintro e w' ⟨rfl, hd⟩
  exact ⟨rfl, hd⟩

end Go.Proofs.Ythcnnkajnmnloaa.P

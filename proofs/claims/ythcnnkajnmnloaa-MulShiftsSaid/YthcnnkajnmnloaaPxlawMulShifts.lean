-- Written by a program of this session (wip/tool), turned from the kit's print. Lean checks it.
import Derived.Test.YthcnnkajnmnloaaPx0
import Derived.Test.YthcnnkajnmnloaaPxnat
import Derived.Test.YthcnnkajnmnloaaPxmuln1
import Derived.Test.YthcnnkajnmnloaaPxmuln2
import Derived.Test.YthcnnkajnmnloaaPxsteelyardkeep
import Derived.Test.YthcnnkajnmnloaaPxsteelyardlaw02
namespace Go.Proofs.Ythcnnkajnmnloaa.P
open Go.RowKit Go.Proofs.YthcnnkajnmnloaaW.PrintWords Go.Proofs.YthcnnkajnmnloaaW.PrintLast Go.Proofs.YthcnnkajnmnloaaW.PrintMore
attribute [local go_sem] max2_int min2_int max_two min_two max_three min_three max_four min_four   -- for this text's walks alone
set_option linter.unusedVariables false
set_option linter.unusedSimpArgs false

/-! ### steelyardlaw02_MulShifts: function 4 -/
def steelyardlaw02_MulShifts.j0 : Nat → List Int → Int → Int → Int → Bool → Option (Bool)
  | 0, _, _, _, _, _ => none
  | k + 1, x0, x2, x7, x8, x56 => if x56 = true then (none) else (if (x0.length : Int) > 4 then ((steelyardlaw02_wakes.f k).bind fun t440 => (some t440)) else ((mul_Pow.f k x0 (Int.tmod x7 8)).bind fun bt441 => ((mul_Pow.f k x0 x8).bind fun bt445 => ((mul_Pow.f k x0 (wrap64 ((Int.tmod x7 8) + x8))).bind fun bt449 => (if bt441.2 = true then (if bt445.2 = true then (if bt449.2 = true then ((mul_Of.f k bt441.1 bt445.1).bind fun t453 => ((steelyardkeep_Nat.f k t453 bt449.1).bind fun t456 => (if t456 = true then ((mul_Small.f k x0 ((x2) % 4294967296)).bind fun t457 => ((nat_Of.f k (IntKind.u64.wrap (x2))).bind fun t460 => ((mul_Of.f k x0 t460).bind fun t463 => ((steelyardkeep_Nat.f k t457 t463).bind fun t466 => (if t466 = true then ((steelyardlaw02_wakes.f k).bind fun t467 => (some t467)) else (none)))))) else (none)))) else (none)) else (none)) else (none))))))
def steelyardlaw02_MulShifts.f (k : Nat) (l0 : List Int) (a1 : Int) (a2 : Int) : Option (Bool) := if (l0.length : Int) > 30 then ((steelyardlaw02_wakes.f k).bind fun t418 => (some t418)) else ((mul_Shift.f k l0 (Int.tmod (wrap64 (a1)) 70)).bind fun t419 => ((nat_Of.f k 2).bind fun t422 => ((mul_Pow.f k t422 (Int.tmod (wrap64 (a1)) 70)).bind fun bt425 => (if bt425.2 = true then ((mul_Of.f k l0 bt425.1).bind fun t429 => ((steelyardkeep_Nat.f k t419 t429).bind fun t432 => (if t432 = true then ((mul_Shift.f k t419 (wrap64 (-(Int.tmod (wrap64 (a1)) 70)))).bind fun t433 => ((nat_Trim.f k l0).bind fun t436 => ((steelyardkeep_Nat.f k t433 t436).bind fun t439 => (steelyardlaw02_MulShifts.j0 k l0 a2 (Int.tmod (wrap64 (a1)) 70) (Int.tmod (wrap64 (a2)) 9) (!t439))))) else (steelyardlaw02_MulShifts.j0 k l0 a2 (Int.tmod (wrap64 (a1)) 70) (Int.tmod (wrap64 (a2)) 9) true)))) else (steelyardlaw02_MulShifts.j0 k l0 a2 (Int.tmod (wrap64 (a1)) 70) (Int.tmod (wrap64 (a2)) 9) true)))))
theorem steelyardlaw02_MulShifts.mono_l : ∀ k, (∀ y0 y1 y2 y3 y4, LeO (steelyardlaw02_MulShifts.j0 k y0 y1 y2 y3 y4) (steelyardlaw02_MulShifts.j0 (k + 1) y0 y1 y2 y3 y4))
  | 0 => fun _ _ _ _ _ r h => by simp [steelyardlaw02_MulShifts.j0] at h
  | k + 1 => by
    have ih0 := steelyardlaw02_MulShifts.mono_l k
    · intro y0 y1 y2 y3 y4
      unfold steelyardlaw02_MulShifts.j0
      repeat' first
      | (with_reducible exact ih0 _ _ _ _ _)
      | (with_reducible exact mul_Of.mono _ _ _)
      | (with_reducible exact mul_Pow.mono _ _ _)
      | (with_reducible exact mul_Shift.mono _ _ _)
      | (with_reducible exact mul_Small.mono _ _ _)
      | (with_reducible exact nat_Of.mono _ _)
      | (with_reducible exact nat_Trim.mono _ _)
      | (with_reducible exact steelyardkeep_Nat.mono _ _ _)
      | (with_reducible exact steelyardlaw02_wakes.mono _)
      | (with_reducible exact LeO.refl _)
      | (with_reducible exact LeO.none _)
      | (with_reducible refine LeO.ite ?_ ?_)
      | (with_reducible refine LeO.bind ?_ (fun _ => ?_))
      | exact ih0 _ _ _ _ _
      | exact mul_Of.mono _ _ _
      | exact mul_Pow.mono _ _ _
      | exact mul_Shift.mono _ _ _
      | exact mul_Small.mono _ _ _
      | exact nat_Of.mono _ _
      | exact nat_Trim.mono _ _
      | exact steelyardkeep_Nat.mono _ _ _
      | exact steelyardlaw02_wakes.mono _
      | exact LeO.none _
      | refine LeO.ite ?_ ?_
      | refine LeO.bind ?_ (fun _ => ?_)
theorem steelyardlaw02_MulShifts.mono : ∀ a0 a1 a2 k, LeO (steelyardlaw02_MulShifts.f k a0 a1 a2) (steelyardlaw02_MulShifts.f (k + 1) a0 a1 a2) := by
  intro a0 a1 a2 k
  have ih0 := steelyardlaw02_MulShifts.mono_l k
  unfold steelyardlaw02_MulShifts.f
  repeat' first
      | (with_reducible exact ih0 _ _ _ _ _)
      | (with_reducible exact mul_Of.mono _ _ _)
      | (with_reducible exact mul_Pow.mono _ _ _)
      | (with_reducible exact mul_Shift.mono _ _ _)
      | (with_reducible exact mul_Small.mono _ _ _)
      | (with_reducible exact nat_Of.mono _ _)
      | (with_reducible exact nat_Trim.mono _ _)
      | (with_reducible exact steelyardkeep_Nat.mono _ _ _)
      | (with_reducible exact steelyardlaw02_wakes.mono _)
      | (with_reducible exact LeO.refl _)
      | (with_reducible exact LeO.none _)
      | (with_reducible refine LeO.ite ?_ ?_)
      | (with_reducible refine LeO.bind ?_ (fun _ => ?_))
      | exact ih0 _ _ _ _ _
      | exact mul_Of.mono _ _ _
      | exact mul_Pow.mono _ _ _
      | exact mul_Shift.mono _ _ _
      | exact mul_Small.mono _ _ _
      | exact nat_Of.mono _ _
      | exact nat_Trim.mono _ _
      | exact steelyardkeep_Nat.mono _ _ _
      | exact steelyardlaw02_wakes.mono _
      | exact LeO.none _
      | refine LeO.ite ?_ ?_
      | refine LeO.bind ?_ (fun _ => ?_)
set_option maxHeartbeats 8000000 in
set_option maxRecDepth 100000 in
theorem steelyardlaw02_MulShifts.calls (k : Nat) (A0 : Option Addr) (c0 : Nat) (l0 : List Int) (a1 : Int) (a2 : Int) (r : Bool) (w : World) (hr0 : Kd.C (Kd.int .u32) w A0 l0.length l0) (hc0 : l0.length ≤ c0) (h : steelyardlaw02_MulShifts.f k l0 a1 a2 = some r) :
    Calls Try.prog 4 #[.slice A0 l0.length c0, .int .u8 a1, .int .u8 a2] w fun e w' => e = .returned (.bool r) ∧ Below w.heap.size w w' := by
  have HR0 := Aside0.mk hr0
  have HC0 := Aside0.mk hc0
  clear hr0 hc0
  have HB := Aside0.mk (Below.refl w.heap.size w)
  have H : (if (l0.length : Int) > 30 then ((steelyardlaw02_wakes.f k).bind fun t418 => (some t418)) else ((mul_Shift.f k l0 (Int.tmod (wrap64 (a1)) 70)).bind fun t419 => ((nat_Of.f k 2).bind fun t422 => ((mul_Pow.f k t422 (Int.tmod (wrap64 (a1)) 70)).bind fun bt425 => (if bt425.2 = true then ((mul_Of.f k l0 bt425.1).bind fun t429 => ((steelyardkeep_Nat.f k t419 t429).bind fun t432 => (if t432 = true then ((mul_Shift.f k t419 (wrap64 (-(Int.tmod (wrap64 (a1)) 70)))).bind fun t433 => ((nat_Trim.f k l0).bind fun t436 => ((steelyardkeep_Nat.f k t433 t436).bind fun t439 => (steelyardlaw02_MulShifts.j0 k l0 a2 (Int.tmod (wrap64 (a1)) 70) (Int.tmod (wrap64 (a2)) 9) (!t439))))) else (steelyardlaw02_MulShifts.j0 k l0 a2 (Int.tmod (wrap64 (a1)) 70) (Int.tmod (wrap64 (a2)) 9) true)))) else (steelyardlaw02_MulShifts.j0 k l0 a2 (Int.tmod (wrap64 (a1)) 70) (Int.tmod (wrap64 (a2)) 9) true)))))) = some r := h
  clear h
  by_cases c4 : (l0.length : Int) > 30
  · rw [if_pos c4] at H
    have c4b0 : decide (30 < (l0.length : Int)) = true := decide_eq_true c4
    have c4b1 : decide (30 < l0.length) = true := decide_eq_true (by omega)
    clear c4
    replace H := Option.bind_eq_some_iff.mp H
    obtain ⟨t418, A50, H⟩ := H
    replace H : (some t418) = some r := H
    have A5 := Aside0.mk A50
    clear A50
    obtain rfl := Option.some.inj H
    go_enter Try.func4, Try.ntmps4
    go_wp2_with (first | ((with_reducible refine gate_callee (f := 13) rfl ?_); refine goesL_ (some 21) rfl rfl Try.func13 (by kernel_rfl) rfl #[] rfl (by (try simp only [List.map_toArray, List.map_cons, List.map_nil]); first | done | rfl | (simp only [List.length_drop, List.length_take]; rfl)) ?_; (with_reducible refine (steelyardlaw02_wakes.calls k  t418 _ A5.out).mono ?_); rintro e w6 ⟨rfl, hb⟩; refine ⟨_, rfl, ?_⟩; have n0_ := Aside0.mk (below_step (by repeat (first | (with_reducible first | exact HB.out | apply below_alloc | apply pw_below_drewN | apply below_drew1) | exact HB.out)) hb); clear HB; have HB := n0_; clear n0_; (try clear hb); (try clear hb2); (try clear hk); (try clear hi)))
    go_ret
    exact ⟨by first | rfl | (simp [errW_none, errW_some] <;> rfl) | (simp [*, errW_none, errW_some] <;> rfl), by repeat (first | (with_reducible first | exact HB.out | apply below_alloc | apply pw_below_drewN | apply below_drew1) | exact HB.out)⟩
  · rw [if_neg c4] at H
    have c4b0 : decide (30 < (l0.length : Int)) = false := decide_eq_false c4
    have c4b1 : decide (30 < l0.length) = false := decide_eq_false (by omega)
    clear c4
    replace H := Option.bind_eq_some_iff.mp H
    obtain ⟨t419, A70, H⟩ := H
    replace H : ((nat_Of.f k 2).bind fun t422 => ((mul_Pow.f k t422 (Int.tmod (wrap64 (a1)) 70)).bind fun bt425 => (if bt425.2 = true then ((mul_Of.f k l0 bt425.1).bind fun t429 => ((steelyardkeep_Nat.f k t419 t429).bind fun t432 => (if t432 = true then ((mul_Shift.f k t419 (wrap64 (-(Int.tmod (wrap64 (a1)) 70)))).bind fun t433 => ((nat_Trim.f k l0).bind fun t436 => ((steelyardkeep_Nat.f k t433 t436).bind fun t439 => (steelyardlaw02_MulShifts.j0 k l0 a2 (Int.tmod (wrap64 (a1)) 70) (Int.tmod (wrap64 (a2)) 9) (!t439))))) else (steelyardlaw02_MulShifts.j0 k l0 a2 (Int.tmod (wrap64 (a1)) 70) (Int.tmod (wrap64 (a2)) 9) true)))) else (steelyardlaw02_MulShifts.j0 k l0 a2 (Int.tmod (wrap64 (a1)) 70) (Int.tmod (wrap64 (a2)) 9) true)))) = some r := H
    have A7 := Aside0.mk A70
    clear A70
    replace H := Option.bind_eq_some_iff.mp H
    obtain ⟨t422, A80, H⟩ := H
    replace H : ((mul_Pow.f k t422 (Int.tmod (wrap64 (a1)) 70)).bind fun bt425 => (if bt425.2 = true then ((mul_Of.f k l0 bt425.1).bind fun t429 => ((steelyardkeep_Nat.f k t419 t429).bind fun t432 => (if t432 = true then ((mul_Shift.f k t419 (wrap64 (-(Int.tmod (wrap64 (a1)) 70)))).bind fun t433 => ((nat_Trim.f k l0).bind fun t436 => ((steelyardkeep_Nat.f k t433 t436).bind fun t439 => (steelyardlaw02_MulShifts.j0 k l0 a2 (Int.tmod (wrap64 (a1)) 70) (Int.tmod (wrap64 (a2)) 9) (!t439))))) else (steelyardlaw02_MulShifts.j0 k l0 a2 (Int.tmod (wrap64 (a1)) 70) (Int.tmod (wrap64 (a2)) 9) true)))) else (steelyardlaw02_MulShifts.j0 k l0 a2 (Int.tmod (wrap64 (a1)) 70) (Int.tmod (wrap64 (a2)) 9) true))) = some r := H
    have A8 := Aside0.mk A80
    clear A80
    replace H := Option.bind_eq_some_iff.mp H
    obtain ⟨⟨t425, t426⟩, A90, H⟩ := H
    replace H : (if t426 = true then ((mul_Of.f k l0 t425).bind fun t429 => ((steelyardkeep_Nat.f k t419 t429).bind fun t432 => (if t432 = true then ((mul_Shift.f k t419 (wrap64 (-(Int.tmod (wrap64 (a1)) 70)))).bind fun t433 => ((nat_Trim.f k l0).bind fun t436 => ((steelyardkeep_Nat.f k t433 t436).bind fun t439 => (steelyardlaw02_MulShifts.j0 k l0 a2 (Int.tmod (wrap64 (a1)) 70) (Int.tmod (wrap64 (a2)) 9) (!t439))))) else (steelyardlaw02_MulShifts.j0 k l0 a2 (Int.tmod (wrap64 (a1)) 70) (Int.tmod (wrap64 (a2)) 9) true)))) else (steelyardlaw02_MulShifts.j0 k l0 a2 (Int.tmod (wrap64 (a1)) 70) (Int.tmod (wrap64 (a2)) 9) true)) = some r := H
    have A9 := Aside0.mk A90
    clear A90
    have HC10 := Aside0.mk H
    clear H
    go_enter Try.func4, Try.ntmps4
    go_upto_region 6 with (first | ((with_reducible refine gate_callee (f := 22) rfl ?_); refine goesL_ (some 30) rfl rfl Try.func22 (by kernel_rfl) rfl #[.slice A0 l0.length c0, .int .i64 (Int.tmod (wrap64 (a1)) 70)] rfl (by (try simp only [List.map_toArray, List.map_cons, List.map_nil]); first | done | rfl | (simp only [List.length_drop, List.length_take]; rfl)) ?_; (with_reducible refine (mul_Shift.calls k _ _ l0 (Int.tmod (wrap64 (a1)) 70) t419 _ ?side1 ?side2 A7.out).mono ?_); (case side1 => repeat (first | exact HR0.out | (with_reducible refine Kd.C_alloc ?_ _) | (with_reducible refine Kd.C_drewN ?_ _) | (with_reducible refine Kd.C_drew ?_))); (case side2 => exact HC0.out); rintro e w11 ⟨v420, rfl, ho0, hb⟩; refine ⟨_, rfl, ?_⟩; have n0_ := Aside0.mk (Kd.R_lower ho0 (below_size (by repeat (first | (with_reducible first | exact HB.out | apply below_alloc | apply pw_below_drewN | apply below_drew1) | exact HB.out)))); have n1_ := Aside0.mk (below_step (by repeat (first | (with_reducible first | exact HB.out | apply below_alloc | apply pw_below_drewN | apply below_drew1) | exact HB.out)) hb); clear HB; have HO421 := n0_; have HB := n1_; clear n0_ n1_; (try clear hb); (try clear hb2); (try clear hk); (try clear hi); (try clear ho0)) | ((with_reducible refine gate_callee (f := 24) rfl ?_); refine goesL_ (some 32) rfl rfl Try.func24 (by kernel_rfl) rfl #[.int .u64 2] rfl (by (try simp only [List.map_toArray, List.map_cons, List.map_nil]); first | done | rfl | (simp only [List.length_drop, List.length_take]; rfl)) ?_; (with_reducible refine (nat_Of.calls k 2 t422 _ A8.out).mono ?_); rintro e w12 ⟨v423, rfl, ho0, hb⟩; refine ⟨_, rfl, ?_⟩; have n0_ := Aside0.mk (Kd.R_elder' (by (with_reducible repeat (first | apply Kd.R_alloc | apply Kd.R_drewN | apply Kd.R_drew)); exact HO421.out) (Kd.R_base ho0) hb); have n1_ := Aside0.mk (Kd.R_lower (Kd.R_new' ho0 (Kd.R_lt (by (with_reducible repeat (first | apply Kd.R_alloc | apply Kd.R_drewN | apply Kd.R_drew)); exact HO421.out))) (below_size (by repeat (first | (with_reducible first | exact HB.out | apply below_alloc | apply pw_below_drewN | apply below_drew1) | exact HB.out)))); have n2_ := Aside0.mk (below_step (by repeat (first | (with_reducible first | exact HB.out | apply below_alloc | apply pw_below_drewN | apply below_drew1) | exact HB.out)) hb); clear HO421; clear HB; have HO421 := n0_; have HO424 := n1_; have HB := n2_; clear n0_ n1_ n2_; (try clear hb); (try clear hb2); (try clear hk); (try clear hi); (try clear ho0); obtain ⟨Ao13, co13, eo13⟩ := Kd.R_slice HO424.out; subst eo13) | ((with_reducible refine gate_callee (f := 15) rfl ?_); refine goesL_ (some 34) rfl rfl Try.func15 (by kernel_rfl) rfl #[.slice Ao13 t422.length co13, .int .i64 (Int.tmod (wrap64 (a1)) 70)] rfl (by (try simp only [List.map_toArray, List.map_cons, List.map_nil]); first | done | rfl | (simp only [List.length_drop, List.length_take]; rfl)) ?_; (with_reducible refine (mul_Pow.calls k _ _ t422 (Int.tmod (wrap64 (a1)) 70) t425 t426 _ ?side1 ?side2 A9.out).mono ?_); (case side1 => repeat (first | exact (Kd.R_reads' HO424.out).2.2 | (with_reducible refine Kd.C_alloc ?_ _) | (with_reducible refine Kd.C_drewN ?_ _) | (with_reducible refine Kd.C_drew ?_))); (case side2 => exact (Kd.R_reads' HO424.out).2.1); rintro e w14 ⟨v427, rfl, ho0, hb⟩; refine ⟨_, rfl, ?_⟩; have n0_ := Aside0.mk (Kd.R_elder' (by (with_reducible repeat (first | apply Kd.R_alloc | apply Kd.R_drewN | apply Kd.R_drew)); exact HO421.out) (Kd.R_base ho0) hb); have n1_ := Aside0.mk (Kd.R_elder' (by (with_reducible repeat (first | apply Kd.R_alloc | apply Kd.R_drewN | apply Kd.R_drew)); exact HO424.out) (Kd.R_base ho0) hb); have n2_ := Aside0.mk (Kd.R_lower (Kd.R_new' (Kd.R_new' ho0 (Kd.R_lt (by (with_reducible repeat (first | apply Kd.R_alloc | apply Kd.R_drewN | apply Kd.R_drew)); exact HO421.out))) (Kd.R_lt (by (with_reducible repeat (first | apply Kd.R_alloc | apply Kd.R_drewN | apply Kd.R_drew)); exact HO424.out))) (below_size (by repeat (first | (with_reducible first | exact HB.out | apply below_alloc | apply pw_below_drewN | apply below_drew1) | exact HB.out)))); have n3_ := Aside0.mk (below_step (by repeat (first | (with_reducible first | exact HB.out | apply below_alloc | apply pw_below_drewN | apply below_drew1) | exact HB.out)) hb); clear HO421; clear HO424; clear HB; have HO421 := n0_; have HO424 := n1_; have HO428 := n2_; have HB := n3_; clear n0_ n1_ n2_ n3_; (try clear hb); (try clear hb2); (try clear hk); (try clear hi); (try clear ho0)))
    (try simp only [Act.put, List.setIfInBounds_toArray, List.set_cons_zero, List.set_cons_succ])
    go_cut [56] (fun v56 wc => ∃ (kq : Nat) (x56_9 : Bool), v56 = .bool x56_9 ∧ Aside0 (steelyardlaw02_MulShifts.j0 kq l0 a2 (Int.tmod (wrap64 (a1)) 70) (Int.tmod (wrap64 (a2)) 9) x56_9 = some r) ∧ Aside0 (kq ≤ k) ∧ Aside0 (Below w.heap.size w wc))
    case first =>
      have H := HC10.out
      clear HC10
      by_cases c15 : t426 = true
      · subst c15
        have H1 : ((mul_Of.f k l0 t425).bind fun t429 => ((steelyardkeep_Nat.f k t419 t429).bind fun t432 => (if t432 = true then ((mul_Shift.f k t419 (wrap64 (-(Int.tmod (wrap64 (a1)) 70)))).bind fun t433 => ((nat_Trim.f k l0).bind fun t436 => ((steelyardkeep_Nat.f k t433 t436).bind fun t439 => (steelyardlaw02_MulShifts.j0 k l0 a2 (Int.tmod (wrap64 (a1)) 70) (Int.tmod (wrap64 (a2)) 9) (!t439))))) else (steelyardlaw02_MulShifts.j0 k l0 a2 (Int.tmod (wrap64 (a1)) 70) (Int.tmod (wrap64 (a2)) 9) true)))) = some r := by rw [if_pos rfl] at H; exact H
        clear H
        have H := H1
        clear H1
        replace H := Option.bind_eq_some_iff.mp H
        obtain ⟨t429, A160, H⟩ := H
        replace H : ((steelyardkeep_Nat.f k t419 t429).bind fun t432 => (if t432 = true then ((mul_Shift.f k t419 (wrap64 (-(Int.tmod (wrap64 (a1)) 70)))).bind fun t433 => ((nat_Trim.f k l0).bind fun t436 => ((steelyardkeep_Nat.f k t433 t436).bind fun t439 => (steelyardlaw02_MulShifts.j0 k l0 a2 (Int.tmod (wrap64 (a1)) 70) (Int.tmod (wrap64 (a2)) 9) (!t439))))) else (steelyardlaw02_MulShifts.j0 k l0 a2 (Int.tmod (wrap64 (a1)) 70) (Int.tmod (wrap64 (a2)) 9) true))) = some r := H
        have A16 := Aside0.mk A160
        clear A160
        replace H := Option.bind_eq_some_iff.mp H
        obtain ⟨t432, A170, H⟩ := H
        replace H : (if t432 = true then ((mul_Shift.f k t419 (wrap64 (-(Int.tmod (wrap64 (a1)) 70)))).bind fun t433 => ((nat_Trim.f k l0).bind fun t436 => ((steelyardkeep_Nat.f k t433 t436).bind fun t439 => (steelyardlaw02_MulShifts.j0 k l0 a2 (Int.tmod (wrap64 (a1)) 70) (Int.tmod (wrap64 (a2)) 9) (!t439))))) else (steelyardlaw02_MulShifts.j0 k l0 a2 (Int.tmod (wrap64 (a1)) 70) (Int.tmod (wrap64 (a2)) 9) true)) = some r := H
        have A17 := Aside0.mk A170
        clear A170
        by_cases c18 : t432 = true
        · subst c18
          have H1 : ((mul_Shift.f k t419 (wrap64 (-(Int.tmod (wrap64 (a1)) 70)))).bind fun t433 => ((nat_Trim.f k l0).bind fun t436 => ((steelyardkeep_Nat.f k t433 t436).bind fun t439 => (steelyardlaw02_MulShifts.j0 k l0 a2 (Int.tmod (wrap64 (a1)) 70) (Int.tmod (wrap64 (a2)) 9) (!t439))))) = some r := by rw [if_pos rfl] at H; exact H
          clear H
          have H := H1
          clear H1
          replace H := Option.bind_eq_some_iff.mp H
          obtain ⟨t433, A190, H⟩ := H
          replace H : ((nat_Trim.f k l0).bind fun t436 => ((steelyardkeep_Nat.f k t433 t436).bind fun t439 => (steelyardlaw02_MulShifts.j0 k l0 a2 (Int.tmod (wrap64 (a1)) 70) (Int.tmod (wrap64 (a2)) 9) (!t439)))) = some r := H
          have A19 := Aside0.mk A190
          clear A190
          replace H := Option.bind_eq_some_iff.mp H
          obtain ⟨t436, A200, H⟩ := H
          replace H : ((steelyardkeep_Nat.f k t433 t436).bind fun t439 => (steelyardlaw02_MulShifts.j0 k l0 a2 (Int.tmod (wrap64 (a1)) 70) (Int.tmod (wrap64 (a2)) 9) (!t439))) = some r := H
          have A20 := Aside0.mk A200
          clear A200
          replace H := Option.bind_eq_some_iff.mp H
          obtain ⟨t439, A210, H⟩ := H
          replace H : (steelyardlaw02_MulShifts.j0 k l0 a2 (Int.tmod (wrap64 (a1)) 70) (Int.tmod (wrap64 (a2)) 9) (!t439)) = some r := H
          have A21 := Aside0.mk A210
          clear A210
          have H' := Aside0.mk H
          clear H
          obtain ⟨Ao22, co22, eo22⟩ := Kd.R_slice HO428.out
          subst eo22
          go_wp2_with (first | (go_at_call 18; (with_reducible refine (mul_Of.calls k _ _ l0 _ _ t425 t429 _ ?side1 ?side2 ?side3 ?side4 A16.out).mono ?_); (case side1 => repeat (first | exact (Kd.C_below HR0.out HB.out) | (with_reducible refine Kd.C_alloc ?_ _) | (with_reducible refine Kd.C_drewN ?_ _) | (with_reducible refine Kd.C_drew ?_))); (case side2 => exact HC0.out); (case side3 => repeat (first | exact (Kd.R_reads' HO428.out).2.2 | (with_reducible refine Kd.C_alloc ?_ _) | (with_reducible refine Kd.C_drewN ?_ _) | (with_reducible refine Kd.C_drew ?_))); (case side4 => exact (Kd.R_reads' HO428.out).2.1); clear A16; rintro e w23 ⟨v430, rfl, ho0, hb⟩; have n0_ := Aside0.mk (Kd.R_elder' (by (with_reducible repeat (first | apply Kd.R_alloc | apply Kd.R_drewN | apply Kd.R_drew)); exact HO421.out) (Kd.R_base ho0) hb); have n1_ := Aside0.mk (Kd.R_elder' (by (with_reducible repeat (first | apply Kd.R_alloc | apply Kd.R_drewN | apply Kd.R_drew)); exact HO424.out) (Kd.R_base ho0) hb); have n2_ := Aside0.mk (Kd.R_elder' (by (with_reducible repeat (first | apply Kd.R_alloc | apply Kd.R_drewN | apply Kd.R_drew)); exact HO428.out) (Kd.R_base ho0) hb); have n3_ := Aside0.mk (Kd.R_lower (Kd.R_new' (Kd.R_new' (Kd.R_new' ho0 (Kd.R_lt (by (with_reducible repeat (first | apply Kd.R_alloc | apply Kd.R_drewN | apply Kd.R_drew)); exact HO421.out))) (Kd.R_lt (by (with_reducible repeat (first | apply Kd.R_alloc | apply Kd.R_drewN | apply Kd.R_drew)); exact HO424.out))) (Kd.R_lt (by (with_reducible repeat (first | apply Kd.R_alloc | apply Kd.R_drewN | apply Kd.R_drew)); exact HO428.out))) (below_size (by repeat (first | (with_reducible first | exact HB.out | apply below_alloc | apply pw_below_drewN | apply below_drew1) | exact HB.out)))); have n4_ := Aside0.mk (below_step (by repeat (first | (with_reducible first | exact HB.out | apply below_alloc | apply pw_below_drewN | apply below_drew1) | exact HB.out)) hb); clear HO421; clear HO424; clear HO428; clear HB; have HO421 := n0_; have HO424 := n1_; have HO428 := n2_; have HO431 := n3_; have HB := n4_; clear n0_ n1_ n2_ n3_ n4_; (try clear hb); (try clear hb2); (try clear hk); (try clear hi); (try clear ho0); obtain ⟨Ao24, co24, eo24⟩ := Kd.R_slice HO421.out; subst eo24; obtain ⟨Ao25, co25, eo25⟩ := Kd.R_slice HO431.out; subst eo25) | (go_at_call 17; (with_reducible refine (steelyardkeep_Nat.calls k _ _ t419 _ _ t429 true _ ?side1 ?side2 ?side3 ?side4 A17.out).mono ?_); (case side1 => repeat (first | exact (Kd.R_reads' HO421.out).2.2 | (with_reducible refine Kd.C_alloc ?_ _) | (with_reducible refine Kd.C_drewN ?_ _) | (with_reducible refine Kd.C_drew ?_))); (case side2 => exact (Kd.R_reads' HO421.out).2.1); (case side3 => repeat (first | exact (Kd.R_reads' HO431.out).2.2 | (with_reducible refine Kd.C_alloc ?_ _) | (with_reducible refine Kd.C_drewN ?_ _) | (with_reducible refine Kd.C_drew ?_))); (case side4 => exact (Kd.R_reads' HO431.out).2.1); clear A17; rintro e w' ⟨rfl, ⟨nd, rfl⟩⟩) | (go_at_call 22; (with_reducible refine (mul_Shift.calls k _ _ t419 (wrap64 (-(Int.tmod (wrap64 (a1)) 70))) t433 _ ?side1 ?side2 A19.out).mono ?_); (case side1 => repeat (first | exact (Kd.R_reads' HO421.out).2.2 | (with_reducible refine Kd.C_alloc ?_ _) | (with_reducible refine Kd.C_drewN ?_ _) | (with_reducible refine Kd.C_drew ?_))); (case side2 => exact (Kd.R_reads' HO421.out).2.1); clear A19; rintro e w26 ⟨v434, rfl, ho0, hb⟩; have n0_ := Aside0.mk (Kd.R_elder' (by (with_reducible repeat (first | apply Kd.R_alloc | apply Kd.R_drewN | apply Kd.R_drew)); exact HO421.out) (Kd.R_base ho0) hb); have n1_ := Aside0.mk (Kd.R_elder' (by (with_reducible repeat (first | apply Kd.R_alloc | apply Kd.R_drewN | apply Kd.R_drew)); exact HO424.out) (Kd.R_base ho0) hb); have n2_ := Aside0.mk (Kd.R_elder' (by (with_reducible repeat (first | apply Kd.R_alloc | apply Kd.R_drewN | apply Kd.R_drew)); exact HO428.out) (Kd.R_base ho0) hb); have n3_ := Aside0.mk (Kd.R_elder' (by (with_reducible repeat (first | apply Kd.R_alloc | apply Kd.R_drewN | apply Kd.R_drew)); exact HO431.out) (Kd.R_base ho0) hb); have n4_ := Aside0.mk (Kd.R_lower (Kd.R_new' (Kd.R_new' (Kd.R_new' (Kd.R_new' ho0 (Kd.R_lt (by (with_reducible repeat (first | apply Kd.R_alloc | apply Kd.R_drewN | apply Kd.R_drew)); exact HO421.out))) (Kd.R_lt (by (with_reducible repeat (first | apply Kd.R_alloc | apply Kd.R_drewN | apply Kd.R_drew)); exact HO424.out))) (Kd.R_lt (by (with_reducible repeat (first | apply Kd.R_alloc | apply Kd.R_drewN | apply Kd.R_drew)); exact HO428.out))) (Kd.R_lt (by (with_reducible repeat (first | apply Kd.R_alloc | apply Kd.R_drewN | apply Kd.R_drew)); exact HO431.out))) (below_size (by repeat (first | (with_reducible first | exact HB.out | apply below_alloc | apply pw_below_drewN | apply below_drew1) | exact HB.out)))); have n5_ := Aside0.mk (below_step (by repeat (first | (with_reducible first | exact HB.out | apply below_alloc | apply pw_below_drewN | apply below_drew1) | exact HB.out)) hb); clear HO421; clear HO424; clear HO428; clear HO431; clear HB; have HO421 := n0_; have HO424 := n1_; have HO428 := n2_; have HO431 := n3_; have HO435 := n4_; have HB := n5_; clear n0_ n1_ n2_ n3_ n4_ n5_; (try clear hb); (try clear hb2); (try clear hk); (try clear hi); (try clear ho0)) | (go_at_call 25; (with_reducible refine (nat_Trim.calls k _ _ l0 t436 _ ?side1 ?side2 A20.out).mono ?_); (case side1 => repeat (first | exact (Kd.C_below HR0.out HB.out) | (with_reducible refine Kd.C_alloc ?_ _) | (with_reducible refine Kd.C_drewN ?_ _) | (with_reducible refine Kd.C_drew ?_))); (case side2 => exact HC0.out); clear A20; rintro e w27 ⟨v437, rfl, ho0, hb⟩; have n0_ := Aside0.mk (Kd.R_elder' (by (with_reducible repeat (first | apply Kd.R_alloc | apply Kd.R_drewN | apply Kd.R_drew)); exact HO421.out) (Kd.R_base ho0) hb); have n1_ := Aside0.mk (Kd.R_elder' (by (with_reducible repeat (first | apply Kd.R_alloc | apply Kd.R_drewN | apply Kd.R_drew)); exact HO424.out) (Kd.R_base ho0) hb); have n2_ := Aside0.mk (Kd.R_elder' (by (with_reducible repeat (first | apply Kd.R_alloc | apply Kd.R_drewN | apply Kd.R_drew)); exact HO428.out) (Kd.R_base ho0) hb); have n3_ := Aside0.mk (Kd.R_elder' (by (with_reducible repeat (first | apply Kd.R_alloc | apply Kd.R_drewN | apply Kd.R_drew)); exact HO431.out) (Kd.R_base ho0) hb); have n4_ := Aside0.mk (Kd.R_elder' (by (with_reducible repeat (first | apply Kd.R_alloc | apply Kd.R_drewN | apply Kd.R_drew)); exact HO435.out) (Kd.R_base ho0) hb); have n5_ := Aside0.mk (Kd.R_lower (Kd.R_new' (Kd.R_new' (Kd.R_new' (Kd.R_new' (Kd.R_new' ho0 (Kd.R_lt (by (with_reducible repeat (first | apply Kd.R_alloc | apply Kd.R_drewN | apply Kd.R_drew)); exact HO421.out))) (Kd.R_lt (by (with_reducible repeat (first | apply Kd.R_alloc | apply Kd.R_drewN | apply Kd.R_drew)); exact HO424.out))) (Kd.R_lt (by (with_reducible repeat (first | apply Kd.R_alloc | apply Kd.R_drewN | apply Kd.R_drew)); exact HO428.out))) (Kd.R_lt (by (with_reducible repeat (first | apply Kd.R_alloc | apply Kd.R_drewN | apply Kd.R_drew)); exact HO431.out))) (Kd.R_lt (by (with_reducible repeat (first | apply Kd.R_alloc | apply Kd.R_drewN | apply Kd.R_drew)); exact HO435.out))) (below_size (by repeat (first | (with_reducible first | exact HB.out | apply below_alloc | apply pw_below_drewN | apply below_drew1) | exact HB.out)))); have n6_ := Aside0.mk (below_step (by repeat (first | (with_reducible first | exact HB.out | apply below_alloc | apply pw_below_drewN | apply below_drew1) | exact HB.out)) hb); clear HO421; clear HO424; clear HO428; clear HO431; clear HO435; clear HB; have HO421 := n0_; have HO424 := n1_; have HO428 := n2_; have HO431 := n3_; have HO435 := n4_; have HO438 := n5_; have HB := n6_; clear n0_ n1_ n2_ n3_ n4_ n5_ n6_; (try clear hb); (try clear hb2); (try clear hk); (try clear hi); (try clear ho0); obtain ⟨Ao28, co28, eo28⟩ := Kd.R_slice HO435.out; subst eo28; obtain ⟨Ao29, co29, eo29⟩ := Kd.R_slice HO438.out; subst eo29) | (go_at_call 17; (with_reducible refine (steelyardkeep_Nat.calls k _ _ t433 _ _ t436 t439 _ ?side1 ?side2 ?side3 ?side4 A21.out).mono ?_); (case side1 => repeat (first | exact (Kd.R_reads' HO435.out).2.2 | (with_reducible refine Kd.C_alloc ?_ _) | (with_reducible refine Kd.C_drewN ?_ _) | (with_reducible refine Kd.C_drew ?_))); (case side2 => exact (Kd.R_reads' HO435.out).2.1); (case side3 => repeat (first | exact (Kd.R_reads' HO438.out).2.2 | (with_reducible refine Kd.C_alloc ?_ _) | (with_reducible refine Kd.C_drewN ?_ _) | (with_reducible refine Kd.C_drew ?_))); (case side4 => exact (Kd.R_reads' HO438.out).2.1); clear A21; rintro e w' ⟨rfl, ⟨nd, rfl⟩⟩))
          go_meet
          case rel => exact ⟨_, (!t439), (by first | rfl | (simp; done) | (simp [*]; done)), H', ⟨by first | omega | exact Nat.le_refl _⟩, ⟨by repeat (first | (with_reducible first | exact HB.out | apply below_alloc | apply pw_below_drewN | apply below_drew1) | exact HB.out)⟩⟩
        · replace c18 := Bool.eq_false_iff.mpr c18
          subst c18
          have H1 : (steelyardlaw02_MulShifts.j0 k l0 a2 (Int.tmod (wrap64 (a1)) 70) (Int.tmod (wrap64 (a2)) 9) true) = some r := by rw [if_neg (show ¬ (false = true) by decide)] at H; exact H
          clear H
          have H := H1
          clear H1
          have H' := Aside0.mk H
          clear H
          obtain ⟨Ao30, co30, eo30⟩ := Kd.R_slice HO428.out
          subst eo30
          go_wp2_with (first | (go_at_call 18; (with_reducible refine (mul_Of.calls k _ _ l0 _ _ t425 t429 _ ?side1 ?side2 ?side3 ?side4 A16.out).mono ?_); (case side1 => repeat (first | exact (Kd.C_below HR0.out HB.out) | (with_reducible refine Kd.C_alloc ?_ _) | (with_reducible refine Kd.C_drewN ?_ _) | (with_reducible refine Kd.C_drew ?_))); (case side2 => exact HC0.out); (case side3 => repeat (first | exact (Kd.R_reads' HO428.out).2.2 | (with_reducible refine Kd.C_alloc ?_ _) | (with_reducible refine Kd.C_drewN ?_ _) | (with_reducible refine Kd.C_drew ?_))); (case side4 => exact (Kd.R_reads' HO428.out).2.1); clear A16; rintro e w31 ⟨v430, rfl, ho0, hb⟩; have n0_ := Aside0.mk (Kd.R_elder' (by (with_reducible repeat (first | apply Kd.R_alloc | apply Kd.R_drewN | apply Kd.R_drew)); exact HO421.out) (Kd.R_base ho0) hb); have n1_ := Aside0.mk (Kd.R_elder' (by (with_reducible repeat (first | apply Kd.R_alloc | apply Kd.R_drewN | apply Kd.R_drew)); exact HO424.out) (Kd.R_base ho0) hb); have n2_ := Aside0.mk (Kd.R_elder' (by (with_reducible repeat (first | apply Kd.R_alloc | apply Kd.R_drewN | apply Kd.R_drew)); exact HO428.out) (Kd.R_base ho0) hb); have n3_ := Aside0.mk (Kd.R_lower (Kd.R_new' (Kd.R_new' (Kd.R_new' ho0 (Kd.R_lt (by (with_reducible repeat (first | apply Kd.R_alloc | apply Kd.R_drewN | apply Kd.R_drew)); exact HO421.out))) (Kd.R_lt (by (with_reducible repeat (first | apply Kd.R_alloc | apply Kd.R_drewN | apply Kd.R_drew)); exact HO424.out))) (Kd.R_lt (by (with_reducible repeat (first | apply Kd.R_alloc | apply Kd.R_drewN | apply Kd.R_drew)); exact HO428.out))) (below_size (by repeat (first | (with_reducible first | exact HB.out | apply below_alloc | apply pw_below_drewN | apply below_drew1) | exact HB.out)))); have n4_ := Aside0.mk (below_step (by repeat (first | (with_reducible first | exact HB.out | apply below_alloc | apply pw_below_drewN | apply below_drew1) | exact HB.out)) hb); clear HO421; clear HO424; clear HO428; clear HB; have HO421 := n0_; have HO424 := n1_; have HO428 := n2_; have HO431 := n3_; have HB := n4_; clear n0_ n1_ n2_ n3_ n4_; (try clear hb); (try clear hb2); (try clear hk); (try clear hi); (try clear ho0); obtain ⟨Ao32, co32, eo32⟩ := Kd.R_slice HO421.out; subst eo32; obtain ⟨Ao33, co33, eo33⟩ := Kd.R_slice HO431.out; subst eo33) | (go_at_call 17; (with_reducible refine (steelyardkeep_Nat.calls k _ _ t419 _ _ t429 false _ ?side1 ?side2 ?side3 ?side4 A17.out).mono ?_); (case side1 => repeat (first | exact (Kd.R_reads' HO421.out).2.2 | (with_reducible refine Kd.C_alloc ?_ _) | (with_reducible refine Kd.C_drewN ?_ _) | (with_reducible refine Kd.C_drew ?_))); (case side2 => exact (Kd.R_reads' HO421.out).2.1); (case side3 => repeat (first | exact (Kd.R_reads' HO431.out).2.2 | (with_reducible refine Kd.C_alloc ?_ _) | (with_reducible refine Kd.C_drewN ?_ _) | (with_reducible refine Kd.C_drew ?_))); (case side4 => exact (Kd.R_reads' HO431.out).2.1); clear A17; rintro e w' ⟨rfl, ⟨nd, rfl⟩⟩))
          go_meet
          case rel => exact ⟨_, (true), (by first | rfl | (simp; done) | (simp [*]; done)), H', ⟨by first | omega | exact Nat.le_refl _⟩, ⟨by repeat (first | (with_reducible first | exact HB.out | apply below_alloc | apply pw_below_drewN | apply below_drew1) | exact HB.out)⟩⟩
      · replace c15 := Bool.eq_false_iff.mpr c15
        subst c15
        have H1 : (steelyardlaw02_MulShifts.j0 k l0 a2 (Int.tmod (wrap64 (a1)) 70) (Int.tmod (wrap64 (a2)) 9) true) = some r := by rw [if_neg (show ¬ (false = true) by decide)] at H; exact H
        clear H
        have H := H1
        clear H1
        have H' := Aside0.mk H
        clear H
        go_wp2
        go_meet
        case rel => exact ⟨_, (true), (by first | rfl | (simp; done) | (simp [*]; done)), H', ⟨by first | omega | exact Nat.le_refl _⟩, ⟨by repeat (first | (with_reducible first | exact HB.out | apply below_alloc | apply pw_below_drewN | apply below_drew1) | exact HB.out)⟩⟩
    case rest =>
      clear HC10
      try clear c1
      try clear c2
      try clear p2
      try clear c4
      try clear c4b0
      try clear c4b1
      try clear p6
      try clear c13
      try clear c15
      try clear c18
      try clear c22
      try clear c24
      obtain ⟨kq, x56_9, rfl, HA, HJ9, HB⟩ := hcut
      cases kq with
      | zero => exact absurd HA.out (by simp [steelyardlaw02_MulShifts.j0])
      | succ kj9 =>
        have H := HA.out
        clear HA
        simp only [steelyardlaw02_MulShifts.j0] at H
        by_cases c34 : x56_9 = true
        · subst c34
          have H1 : (none) = some r := by rw [if_pos rfl] at H; exact H
          clear H
          have H := H1
          clear H1
          exact absurd H (by simp)
        · replace c34 := Bool.eq_false_iff.mpr c34
          subst c34
          have H1 : (if (l0.length : Int) > 4 then ((steelyardlaw02_wakes.f kj9).bind fun t440 => (some t440)) else ((mul_Pow.f kj9 l0 (Int.tmod (Int.tmod (wrap64 (a1)) 70) 8)).bind fun bt441 => ((mul_Pow.f kj9 l0 (Int.tmod (wrap64 (a2)) 9)).bind fun bt445 => ((mul_Pow.f kj9 l0 (wrap64 ((Int.tmod (Int.tmod (wrap64 (a1)) 70) 8) + (Int.tmod (wrap64 (a2)) 9)))).bind fun bt449 => (if bt441.2 = true then (if bt445.2 = true then (if bt449.2 = true then ((mul_Of.f kj9 bt441.1 bt445.1).bind fun t453 => ((steelyardkeep_Nat.f kj9 t453 bt449.1).bind fun t456 => (if t456 = true then ((mul_Small.f kj9 l0 ((a2) % 4294967296)).bind fun t457 => ((nat_Of.f kj9 (IntKind.u64.wrap (a2))).bind fun t460 => ((mul_Of.f kj9 l0 t460).bind fun t463 => ((steelyardkeep_Nat.f kj9 t457 t463).bind fun t466 => (if t466 = true then ((steelyardlaw02_wakes.f kj9).bind fun t467 => (some t467)) else (none)))))) else (none)))) else (none)) else (none)) else (none)))))) = some r := by rw [if_neg (show ¬ (false = true) by decide)] at H; exact H
          clear H
          have H := H1
          clear H1
          by_cases c35 : (l0.length : Int) > 4
          · rw [if_pos c35] at H
            have c35b0 : decide (4 < (l0.length : Int)) = true := decide_eq_true c35
            have c35b1 : decide (4 < l0.length) = true := decide_eq_true (by omega)
            clear c35
            replace H := Option.bind_eq_some_iff.mp H
            obtain ⟨t440, A360, H⟩ := H
            replace H : (some t440) = some r := H
            have A36 := Aside0.mk A360
            clear A360
            obtain rfl := Option.some.inj H
            go_wp2_with (first | ((with_reducible refine gate_callee (f := 13) rfl ?_); refine goesL_ (some 60) rfl rfl Try.func13 (by kernel_rfl) rfl #[] rfl (by (try simp only [List.map_toArray, List.map_cons, List.map_nil]); first | done | rfl | (simp only [List.length_drop, List.length_take]; rfl)) ?_; (with_reducible refine (steelyardlaw02_wakes.calls kj9  t440 _ A36.out).mono ?_); rintro e w37 ⟨rfl, hb⟩; refine ⟨_, rfl, ?_⟩; have n0_ := Aside0.mk (below_step (by repeat (first | (with_reducible first | exact HB.out | apply below_alloc | apply pw_below_drewN | apply below_drew1) | exact HB.out)) hb); clear HB; have HB := n0_; clear n0_; (try clear hb); (try clear hb2); (try clear hk); (try clear hi)))
            go_ret
            exact ⟨by first | rfl | (simp [errW_none, errW_some] <;> rfl) | (simp [*, errW_none, errW_some] <;> rfl), by repeat (first | (with_reducible first | exact HB.out | apply below_alloc | apply pw_below_drewN | apply below_drew1) | exact HB.out)⟩
          · rw [if_neg c35] at H
            have c35b0 : decide (4 < (l0.length : Int)) = false := decide_eq_false c35
            have c35b1 : decide (4 < l0.length) = false := decide_eq_false (by omega)
            clear c35
            replace H := Option.bind_eq_some_iff.mp H
            obtain ⟨⟨t441, t442⟩, A380, H⟩ := H
            replace H : ((mul_Pow.f kj9 l0 (Int.tmod (wrap64 (a2)) 9)).bind fun bt445 => ((mul_Pow.f kj9 l0 (wrap64 ((Int.tmod (Int.tmod (wrap64 (a1)) 70) 8) + (Int.tmod (wrap64 (a2)) 9)))).bind fun bt449 => (if t442 = true then (if bt445.2 = true then (if bt449.2 = true then ((mul_Of.f kj9 t441 bt445.1).bind fun t453 => ((steelyardkeep_Nat.f kj9 t453 bt449.1).bind fun t456 => (if t456 = true then ((mul_Small.f kj9 l0 ((a2) % 4294967296)).bind fun t457 => ((nat_Of.f kj9 (IntKind.u64.wrap (a2))).bind fun t460 => ((mul_Of.f kj9 l0 t460).bind fun t463 => ((steelyardkeep_Nat.f kj9 t457 t463).bind fun t466 => (if t466 = true then ((steelyardlaw02_wakes.f kj9).bind fun t467 => (some t467)) else (none)))))) else (none)))) else (none)) else (none)) else (none)))) = some r := H
            have A38 := Aside0.mk A380
            clear A380
            replace H := Option.bind_eq_some_iff.mp H
            obtain ⟨⟨t445, t446⟩, A390, H⟩ := H
            replace H : ((mul_Pow.f kj9 l0 (wrap64 ((Int.tmod (Int.tmod (wrap64 (a1)) 70) 8) + (Int.tmod (wrap64 (a2)) 9)))).bind fun bt449 => (if t442 = true then (if t446 = true then (if bt449.2 = true then ((mul_Of.f kj9 t441 t445).bind fun t453 => ((steelyardkeep_Nat.f kj9 t453 bt449.1).bind fun t456 => (if t456 = true then ((mul_Small.f kj9 l0 ((a2) % 4294967296)).bind fun t457 => ((nat_Of.f kj9 (IntKind.u64.wrap (a2))).bind fun t460 => ((mul_Of.f kj9 l0 t460).bind fun t463 => ((steelyardkeep_Nat.f kj9 t457 t463).bind fun t466 => (if t466 = true then ((steelyardlaw02_wakes.f kj9).bind fun t467 => (some t467)) else (none)))))) else (none)))) else (none)) else (none)) else (none))) = some r := H
            have A39 := Aside0.mk A390
            clear A390
            replace H := Option.bind_eq_some_iff.mp H
            obtain ⟨⟨t449, t450⟩, A400, H⟩ := H
            replace H : (if t442 = true then (if t446 = true then (if t450 = true then ((mul_Of.f kj9 t441 t445).bind fun t453 => ((steelyardkeep_Nat.f kj9 t453 t449).bind fun t456 => (if t456 = true then ((mul_Small.f kj9 l0 ((a2) % 4294967296)).bind fun t457 => ((nat_Of.f kj9 (IntKind.u64.wrap (a2))).bind fun t460 => ((mul_Of.f kj9 l0 t460).bind fun t463 => ((steelyardkeep_Nat.f kj9 t457 t463).bind fun t466 => (if t466 = true then ((steelyardlaw02_wakes.f kj9).bind fun t467 => (some t467)) else (none)))))) else (none)))) else (none)) else (none)) else (none)) = some r := H
            have A40 := Aside0.mk A400
            clear A400
            by_cases c41 : t442 = true
            · subst c41
              have H1 : (if t446 = true then (if t450 = true then ((mul_Of.f kj9 t441 t445).bind fun t453 => ((steelyardkeep_Nat.f kj9 t453 t449).bind fun t456 => (if t456 = true then ((mul_Small.f kj9 l0 ((a2) % 4294967296)).bind fun t457 => ((nat_Of.f kj9 (IntKind.u64.wrap (a2))).bind fun t460 => ((mul_Of.f kj9 l0 t460).bind fun t463 => ((steelyardkeep_Nat.f kj9 t457 t463).bind fun t466 => (if t466 = true then ((steelyardlaw02_wakes.f kj9).bind fun t467 => (some t467)) else (none)))))) else (none)))) else (none)) else (none)) = some r := by rw [if_pos rfl] at H; exact H
              clear H
              have H := H1
              clear H1
              by_cases c42 : t446 = true
              · subst c42
                have H1 : (if t450 = true then ((mul_Of.f kj9 t441 t445).bind fun t453 => ((steelyardkeep_Nat.f kj9 t453 t449).bind fun t456 => (if t456 = true then ((mul_Small.f kj9 l0 ((a2) % 4294967296)).bind fun t457 => ((nat_Of.f kj9 (IntKind.u64.wrap (a2))).bind fun t460 => ((mul_Of.f kj9 l0 t460).bind fun t463 => ((steelyardkeep_Nat.f kj9 t457 t463).bind fun t466 => (if t466 = true then ((steelyardlaw02_wakes.f kj9).bind fun t467 => (some t467)) else (none)))))) else (none)))) else (none)) = some r := by rw [if_pos rfl] at H; exact H
                clear H
                have H := H1
                clear H1
                by_cases c43 : t450 = true
                · subst c43
                  have H1 : ((mul_Of.f kj9 t441 t445).bind fun t453 => ((steelyardkeep_Nat.f kj9 t453 t449).bind fun t456 => (if t456 = true then ((mul_Small.f kj9 l0 ((a2) % 4294967296)).bind fun t457 => ((nat_Of.f kj9 (IntKind.u64.wrap (a2))).bind fun t460 => ((mul_Of.f kj9 l0 t460).bind fun t463 => ((steelyardkeep_Nat.f kj9 t457 t463).bind fun t466 => (if t466 = true then ((steelyardlaw02_wakes.f kj9).bind fun t467 => (some t467)) else (none)))))) else (none)))) = some r := by rw [if_pos rfl] at H; exact H
                  clear H
                  have H := H1
                  clear H1
                  replace H := Option.bind_eq_some_iff.mp H
                  obtain ⟨t453, A440, H⟩ := H
                  replace H : ((steelyardkeep_Nat.f kj9 t453 t449).bind fun t456 => (if t456 = true then ((mul_Small.f kj9 l0 ((a2) % 4294967296)).bind fun t457 => ((nat_Of.f kj9 (IntKind.u64.wrap (a2))).bind fun t460 => ((mul_Of.f kj9 l0 t460).bind fun t463 => ((steelyardkeep_Nat.f kj9 t457 t463).bind fun t466 => (if t466 = true then ((steelyardlaw02_wakes.f kj9).bind fun t467 => (some t467)) else (none)))))) else (none))) = some r := H
                  have A44 := Aside0.mk A440
                  clear A440
                  replace H := Option.bind_eq_some_iff.mp H
                  obtain ⟨t456, A450, H⟩ := H
                  replace H : (if t456 = true then ((mul_Small.f kj9 l0 ((a2) % 4294967296)).bind fun t457 => ((nat_Of.f kj9 (IntKind.u64.wrap (a2))).bind fun t460 => ((mul_Of.f kj9 l0 t460).bind fun t463 => ((steelyardkeep_Nat.f kj9 t457 t463).bind fun t466 => (if t466 = true then ((steelyardlaw02_wakes.f kj9).bind fun t467 => (some t467)) else (none)))))) else (none)) = some r := H
                  have A45 := Aside0.mk A450
                  clear A450
                  by_cases c46 : t456 = true
                  · subst c46
                    have H1 : ((mul_Small.f kj9 l0 ((a2) % 4294967296)).bind fun t457 => ((nat_Of.f kj9 (IntKind.u64.wrap (a2))).bind fun t460 => ((mul_Of.f kj9 l0 t460).bind fun t463 => ((steelyardkeep_Nat.f kj9 t457 t463).bind fun t466 => (if t466 = true then ((steelyardlaw02_wakes.f kj9).bind fun t467 => (some t467)) else (none)))))) = some r := by rw [if_pos rfl] at H; exact H
                    clear H
                    have H := H1
                    clear H1
                    replace H := Option.bind_eq_some_iff.mp H
                    obtain ⟨t457, A470, H⟩ := H
                    replace H : ((nat_Of.f kj9 (IntKind.u64.wrap (a2))).bind fun t460 => ((mul_Of.f kj9 l0 t460).bind fun t463 => ((steelyardkeep_Nat.f kj9 t457 t463).bind fun t466 => (if t466 = true then ((steelyardlaw02_wakes.f kj9).bind fun t467 => (some t467)) else (none))))) = some r := H
                    have A47 := Aside0.mk A470
                    clear A470
                    replace H := Option.bind_eq_some_iff.mp H
                    obtain ⟨t460, A480, H⟩ := H
                    replace H : ((mul_Of.f kj9 l0 t460).bind fun t463 => ((steelyardkeep_Nat.f kj9 t457 t463).bind fun t466 => (if t466 = true then ((steelyardlaw02_wakes.f kj9).bind fun t467 => (some t467)) else (none)))) = some r := H
                    have A48 := Aside0.mk A480
                    clear A480
                    replace H := Option.bind_eq_some_iff.mp H
                    obtain ⟨t463, A490, H⟩ := H
                    replace H : ((steelyardkeep_Nat.f kj9 t457 t463).bind fun t466 => (if t466 = true then ((steelyardlaw02_wakes.f kj9).bind fun t467 => (some t467)) else (none))) = some r := H
                    have A49 := Aside0.mk A490
                    clear A490
                    replace H := Option.bind_eq_some_iff.mp H
                    obtain ⟨t466, A500, H⟩ := H
                    replace H : (if t466 = true then ((steelyardlaw02_wakes.f kj9).bind fun t467 => (some t467)) else (none)) = some r := H
                    have A50 := Aside0.mk A500
                    clear A500
                    by_cases c51 : t466 = true
                    · subst c51
                      have H1 : ((steelyardlaw02_wakes.f kj9).bind fun t467 => (some t467)) = some r := by rw [if_pos rfl] at H; exact H
                      clear H
                      have H := H1
                      clear H1
                      replace H := Option.bind_eq_some_iff.mp H
                      obtain ⟨t467, A520, H⟩ := H
                      replace H : (some t467) = some r := H
                      have A52 := Aside0.mk A520
                      clear A520
                      obtain rfl := Option.some.inj H
                      go_wp2_with (first | ((with_reducible refine gate_callee (f := 15) rfl ?_); refine goesL_ (some 65) rfl rfl Try.func15 (by kernel_rfl) rfl #[.slice A0 l0.length c0, .int .i64 (Int.tmod (Int.tmod (wrap64 (a1)) 70) 8)] rfl (by (try simp only [List.map_toArray, List.map_cons, List.map_nil]); first | done | rfl | (simp only [List.length_drop, List.length_take]; rfl)) ?_; (with_reducible refine (mul_Pow.calls kj9 _ _ l0 (Int.tmod (Int.tmod (wrap64 (a1)) 70) 8) t441 true _ ?side1 ?side2 A38.out).mono ?_); (case side1 => repeat (first | exact (Kd.C_below HR0.out HB.out) | (with_reducible refine Kd.C_alloc ?_ _) | (with_reducible refine Kd.C_drewN ?_ _) | (with_reducible refine Kd.C_drew ?_))); (case side2 => exact HC0.out); rintro e w53 ⟨v443, rfl, ho0, hb⟩; refine ⟨_, rfl, ?_⟩; have n0_ := Aside0.mk (Kd.R_lower ho0 (below_size (by repeat (first | (with_reducible first | exact HB.out | apply below_alloc | apply pw_below_drewN | apply below_drew1) | exact HB.out)))); have n1_ := Aside0.mk (below_step (by repeat (first | (with_reducible first | exact HB.out | apply below_alloc | apply pw_below_drewN | apply below_drew1) | exact HB.out)) hb); clear HB; have HO444 := n0_; have HB := n1_; clear n0_ n1_; (try clear hb); (try clear hb2); (try clear hk); (try clear hi); (try clear ho0)) | ((with_reducible refine gate_callee (f := 15) rfl ?_); refine goesL_ (some 71) rfl rfl Try.func15 (by kernel_rfl) rfl #[.slice A0 l0.length c0, .int .i64 (Int.tmod (wrap64 (a2)) 9)] rfl (by (try simp only [List.map_toArray, List.map_cons, List.map_nil]); first | done | rfl | (simp only [List.length_drop, List.length_take]; rfl)) ?_; (with_reducible refine (mul_Pow.calls kj9 _ _ l0 (Int.tmod (wrap64 (a2)) 9) t445 true _ ?side1 ?side2 A39.out).mono ?_); (case side1 => repeat (first | exact (Kd.C_below HR0.out HB.out) | (with_reducible refine Kd.C_alloc ?_ _) | (with_reducible refine Kd.C_drewN ?_ _) | (with_reducible refine Kd.C_drew ?_))); (case side2 => exact HC0.out); rintro e w54 ⟨v447, rfl, ho0, hb⟩; refine ⟨_, rfl, ?_⟩; have n0_ := Aside0.mk (Kd.R_elder' (by (with_reducible repeat (first | apply Kd.R_alloc | apply Kd.R_drewN | apply Kd.R_drew)); exact HO444.out) (Kd.R_base ho0) hb); have n1_ := Aside0.mk (Kd.R_lower (Kd.R_new' ho0 (Kd.R_lt (by (with_reducible repeat (first | apply Kd.R_alloc | apply Kd.R_drewN | apply Kd.R_drew)); exact HO444.out))) (below_size (by repeat (first | (with_reducible first | exact HB.out | apply below_alloc | apply pw_below_drewN | apply below_drew1) | exact HB.out)))); have n2_ := Aside0.mk (below_step (by repeat (first | (with_reducible first | exact HB.out | apply below_alloc | apply pw_below_drewN | apply below_drew1) | exact HB.out)) hb); clear HO444; clear HB; have HO444 := n0_; have HO448 := n1_; have HB := n2_; clear n0_ n1_ n2_; (try clear hb); (try clear hb2); (try clear hk); (try clear hi); (try clear ho0)) | ((with_reducible refine gate_callee (f := 15) rfl ?_); refine goesL_ (some 80) rfl rfl Try.func15 (by kernel_rfl) rfl #[.slice A0 l0.length c0, .int .i64 (wrap64 ((Int.tmod (Int.tmod (wrap64 (a1)) 70) 8) + (Int.tmod (wrap64 (a2)) 9)))] rfl (by (try simp only [List.map_toArray, List.map_cons, List.map_nil]); first | done | rfl | (simp only [List.length_drop, List.length_take]; rfl)) ?_; (with_reducible refine (mul_Pow.calls kj9 _ _ l0 (wrap64 ((Int.tmod (Int.tmod (wrap64 (a1)) 70) 8) + (Int.tmod (wrap64 (a2)) 9))) t449 true _ ?side1 ?side2 A40.out).mono ?_); (case side1 => repeat (first | exact (Kd.C_below HR0.out HB.out) | (with_reducible refine Kd.C_alloc ?_ _) | (with_reducible refine Kd.C_drewN ?_ _) | (with_reducible refine Kd.C_drew ?_))); (case side2 => exact HC0.out); rintro e w55 ⟨v451, rfl, ho0, hb⟩; refine ⟨_, rfl, ?_⟩; have n0_ := Aside0.mk (Kd.R_elder' (by (with_reducible repeat (first | apply Kd.R_alloc | apply Kd.R_drewN | apply Kd.R_drew)); exact HO444.out) (Kd.R_base ho0) hb); have n1_ := Aside0.mk (Kd.R_elder' (by (with_reducible repeat (first | apply Kd.R_alloc | apply Kd.R_drewN | apply Kd.R_drew)); exact HO448.out) (Kd.R_base ho0) hb); have n2_ := Aside0.mk (Kd.R_lower (Kd.R_new' (Kd.R_new' ho0 (Kd.R_lt (by (with_reducible repeat (first | apply Kd.R_alloc | apply Kd.R_drewN | apply Kd.R_drew)); exact HO444.out))) (Kd.R_lt (by (with_reducible repeat (first | apply Kd.R_alloc | apply Kd.R_drewN | apply Kd.R_drew)); exact HO448.out))) (below_size (by repeat (first | (with_reducible first | exact HB.out | apply below_alloc | apply pw_below_drewN | apply below_drew1) | exact HB.out)))); have n3_ := Aside0.mk (below_step (by repeat (first | (with_reducible first | exact HB.out | apply below_alloc | apply pw_below_drewN | apply below_drew1) | exact HB.out)) hb); clear HO444; clear HO448; clear HB; have HO444 := n0_; have HO448 := n1_; have HO452 := n2_; have HB := n3_; clear n0_ n1_ n2_ n3_; (try clear hb); (try clear hb2); (try clear hk); (try clear hi); (try clear ho0); obtain ⟨Ao56, co56, eo56⟩ := Kd.R_slice HO444.out; subst eo56; obtain ⟨Ao57, co57, eo57⟩ := Kd.R_slice HO448.out; subst eo57) | (go_at_call 18; (with_reducible refine (mul_Of.calls kj9 _ _ t441 _ _ t445 t453 _ ?side1 ?side2 ?side3 ?side4 A44.out).mono ?_); (case side1 => repeat (first | exact (Kd.R_reads' HO444.out).2.2 | (with_reducible refine Kd.C_alloc ?_ _) | (with_reducible refine Kd.C_drewN ?_ _) | (with_reducible refine Kd.C_drew ?_))); (case side2 => exact (Kd.R_reads' HO444.out).2.1); (case side3 => repeat (first | exact (Kd.R_reads' HO448.out).2.2 | (with_reducible refine Kd.C_alloc ?_ _) | (with_reducible refine Kd.C_drewN ?_ _) | (with_reducible refine Kd.C_drew ?_))); (case side4 => exact (Kd.R_reads' HO448.out).2.1); clear A44; rintro e w58 ⟨v454, rfl, ho0, hb⟩; have n0_ := Aside0.mk (Kd.R_elder' (by (with_reducible repeat (first | apply Kd.R_alloc | apply Kd.R_drewN | apply Kd.R_drew)); exact HO444.out) (Kd.R_base ho0) hb); have n1_ := Aside0.mk (Kd.R_elder' (by (with_reducible repeat (first | apply Kd.R_alloc | apply Kd.R_drewN | apply Kd.R_drew)); exact HO448.out) (Kd.R_base ho0) hb); have n2_ := Aside0.mk (Kd.R_elder' (by (with_reducible repeat (first | apply Kd.R_alloc | apply Kd.R_drewN | apply Kd.R_drew)); exact HO452.out) (Kd.R_base ho0) hb); have n3_ := Aside0.mk (Kd.R_lower (Kd.R_new' (Kd.R_new' (Kd.R_new' ho0 (Kd.R_lt (by (with_reducible repeat (first | apply Kd.R_alloc | apply Kd.R_drewN | apply Kd.R_drew)); exact HO444.out))) (Kd.R_lt (by (with_reducible repeat (first | apply Kd.R_alloc | apply Kd.R_drewN | apply Kd.R_drew)); exact HO448.out))) (Kd.R_lt (by (with_reducible repeat (first | apply Kd.R_alloc | apply Kd.R_drewN | apply Kd.R_drew)); exact HO452.out))) (below_size (by repeat (first | (with_reducible first | exact HB.out | apply below_alloc | apply pw_below_drewN | apply below_drew1) | exact HB.out)))); have n4_ := Aside0.mk (below_step (by repeat (first | (with_reducible first | exact HB.out | apply below_alloc | apply pw_below_drewN | apply below_drew1) | exact HB.out)) hb); clear HO444; clear HO448; clear HO452; clear HB; have HO444 := n0_; have HO448 := n1_; have HO452 := n2_; have HO455 := n3_; have HB := n4_; clear n0_ n1_ n2_ n3_ n4_; (try clear hb); (try clear hb2); (try clear hk); (try clear hi); (try clear ho0); obtain ⟨Ao59, co59, eo59⟩ := Kd.R_slice HO455.out; subst eo59; obtain ⟨Ao60, co60, eo60⟩ := Kd.R_slice HO452.out; subst eo60) | (go_at_call 17; (with_reducible refine (steelyardkeep_Nat.calls kj9 _ _ t453 _ _ t449 true _ ?side1 ?side2 ?side3 ?side4 A45.out).mono ?_); (case side1 => repeat (first | exact (Kd.R_reads' HO455.out).2.2 | (with_reducible refine Kd.C_alloc ?_ _) | (with_reducible refine Kd.C_drewN ?_ _) | (with_reducible refine Kd.C_drew ?_))); (case side2 => exact (Kd.R_reads' HO455.out).2.1); (case side3 => repeat (first | exact (Kd.R_reads' HO452.out).2.2 | (with_reducible refine Kd.C_alloc ?_ _) | (with_reducible refine Kd.C_drewN ?_ _) | (with_reducible refine Kd.C_drew ?_))); (case side4 => exact (Kd.R_reads' HO452.out).2.1); clear A45; rintro e w' ⟨rfl, ⟨nd, rfl⟩⟩) | (go_at_call 20; (with_reducible refine (mul_Small.calls kj9 _ _ l0 ((a2) % 4294967296) t457 _ ?side1 ?side2 A47.out).mono ?_); (case side1 => repeat (first | exact (Kd.C_below HR0.out (by repeat (first | (with_reducible first | exact HB.out | apply below_alloc | apply pw_below_drewN | apply below_drew1) | exact HB.out))) | (with_reducible refine Kd.C_alloc ?_ _) | (with_reducible refine Kd.C_drewN ?_ _) | (with_reducible refine Kd.C_drew ?_))); (case side2 => exact HC0.out); clear A47; rintro e w61 ⟨v458, rfl, ho0, hb⟩; have n0_ := Aside0.mk (Kd.R_elder' (by (with_reducible repeat (first | apply Kd.R_alloc | apply Kd.R_drewN | apply Kd.R_drew)); exact HO444.out) (Kd.R_base ho0) hb); have n1_ := Aside0.mk (Kd.R_elder' (by (with_reducible repeat (first | apply Kd.R_alloc | apply Kd.R_drewN | apply Kd.R_drew)); exact HO448.out) (Kd.R_base ho0) hb); have n2_ := Aside0.mk (Kd.R_elder' (by (with_reducible repeat (first | apply Kd.R_alloc | apply Kd.R_drewN | apply Kd.R_drew)); exact HO452.out) (Kd.R_base ho0) hb); have n3_ := Aside0.mk (Kd.R_elder' (by (with_reducible repeat (first | apply Kd.R_alloc | apply Kd.R_drewN | apply Kd.R_drew)); exact HO455.out) (Kd.R_base ho0) hb); have n4_ := Aside0.mk (Kd.R_lower (Kd.R_new' (Kd.R_new' (Kd.R_new' (Kd.R_new' ho0 (Kd.R_lt (by (with_reducible repeat (first | apply Kd.R_alloc | apply Kd.R_drewN | apply Kd.R_drew)); exact HO444.out))) (Kd.R_lt (by (with_reducible repeat (first | apply Kd.R_alloc | apply Kd.R_drewN | apply Kd.R_drew)); exact HO448.out))) (Kd.R_lt (by (with_reducible repeat (first | apply Kd.R_alloc | apply Kd.R_drewN | apply Kd.R_drew)); exact HO452.out))) (Kd.R_lt (by (with_reducible repeat (first | apply Kd.R_alloc | apply Kd.R_drewN | apply Kd.R_drew)); exact HO455.out))) (below_size (by repeat (first | (with_reducible first | exact HB.out | apply below_alloc | apply pw_below_drewN | apply below_drew1) | exact HB.out)))); have n5_ := Aside0.mk (below_step (by repeat (first | (with_reducible first | exact HB.out | apply below_alloc | apply pw_below_drewN | apply below_drew1) | exact HB.out)) hb); clear HO444; clear HO448; clear HO452; clear HO455; clear HB; have HO444 := n0_; have HO448 := n1_; have HO452 := n2_; have HO455 := n3_; have HO459 := n4_; have HB := n5_; clear n0_ n1_ n2_ n3_ n4_ n5_; (try clear hb); (try clear hb2); (try clear hk); (try clear hi); (try clear ho0)) | (go_at_call 24; (with_reducible refine (nat_Of.calls kj9 (IntKind.u64.wrap (a2)) t460 _ A48.out).mono ?_); clear A48; rintro e w62 ⟨v461, rfl, ho0, hb⟩; have n0_ := Aside0.mk (Kd.R_elder' (by (with_reducible repeat (first | apply Kd.R_alloc | apply Kd.R_drewN | apply Kd.R_drew)); exact HO444.out) (Kd.R_base ho0) hb); have n1_ := Aside0.mk (Kd.R_elder' (by (with_reducible repeat (first | apply Kd.R_alloc | apply Kd.R_drewN | apply Kd.R_drew)); exact HO448.out) (Kd.R_base ho0) hb); have n2_ := Aside0.mk (Kd.R_elder' (by (with_reducible repeat (first | apply Kd.R_alloc | apply Kd.R_drewN | apply Kd.R_drew)); exact HO452.out) (Kd.R_base ho0) hb); have n3_ := Aside0.mk (Kd.R_elder' (by (with_reducible repeat (first | apply Kd.R_alloc | apply Kd.R_drewN | apply Kd.R_drew)); exact HO455.out) (Kd.R_base ho0) hb); have n4_ := Aside0.mk (Kd.R_elder' (by (with_reducible repeat (first | apply Kd.R_alloc | apply Kd.R_drewN | apply Kd.R_drew)); exact HO459.out) (Kd.R_base ho0) hb); have n5_ := Aside0.mk (Kd.R_lower (Kd.R_new' (Kd.R_new' (Kd.R_new' (Kd.R_new' (Kd.R_new' ho0 (Kd.R_lt (by (with_reducible repeat (first | apply Kd.R_alloc | apply Kd.R_drewN | apply Kd.R_drew)); exact HO444.out))) (Kd.R_lt (by (with_reducible repeat (first | apply Kd.R_alloc | apply Kd.R_drewN | apply Kd.R_drew)); exact HO448.out))) (Kd.R_lt (by (with_reducible repeat (first | apply Kd.R_alloc | apply Kd.R_drewN | apply Kd.R_drew)); exact HO452.out))) (Kd.R_lt (by (with_reducible repeat (first | apply Kd.R_alloc | apply Kd.R_drewN | apply Kd.R_drew)); exact HO455.out))) (Kd.R_lt (by (with_reducible repeat (first | apply Kd.R_alloc | apply Kd.R_drewN | apply Kd.R_drew)); exact HO459.out))) (below_size (by repeat (first | (with_reducible first | exact HB.out | apply below_alloc | apply pw_below_drewN | apply below_drew1) | exact HB.out)))); have n6_ := Aside0.mk (below_step (by repeat (first | (with_reducible first | exact HB.out | apply below_alloc | apply pw_below_drewN | apply below_drew1) | exact HB.out)) hb); clear HO444; clear HO448; clear HO452; clear HO455; clear HO459; clear HB; have HO444 := n0_; have HO448 := n1_; have HO452 := n2_; have HO455 := n3_; have HO459 := n4_; have HO462 := n5_; have HB := n6_; clear n0_ n1_ n2_ n3_ n4_ n5_ n6_; (try clear hb); (try clear hb2); (try clear hk); (try clear hi); (try clear ho0); obtain ⟨Ao63, co63, eo63⟩ := Kd.R_slice HO462.out; subst eo63) | (go_at_call 18; (with_reducible refine (mul_Of.calls kj9 _ _ l0 _ _ t460 t463 _ ?side1 ?side2 ?side3 ?side4 A49.out).mono ?_); (case side1 => repeat (first | exact (Kd.C_below HR0.out HB.out) | (with_reducible refine Kd.C_alloc ?_ _) | (with_reducible refine Kd.C_drewN ?_ _) | (with_reducible refine Kd.C_drew ?_))); (case side2 => exact HC0.out); (case side3 => repeat (first | exact (Kd.R_reads' HO462.out).2.2 | (with_reducible refine Kd.C_alloc ?_ _) | (with_reducible refine Kd.C_drewN ?_ _) | (with_reducible refine Kd.C_drew ?_))); (case side4 => exact (Kd.R_reads' HO462.out).2.1); clear A49; rintro e w64 ⟨v464, rfl, ho0, hb⟩; have n0_ := Aside0.mk (Kd.R_elder' (by (with_reducible repeat (first | apply Kd.R_alloc | apply Kd.R_drewN | apply Kd.R_drew)); exact HO444.out) (Kd.R_base ho0) hb); have n1_ := Aside0.mk (Kd.R_elder' (by (with_reducible repeat (first | apply Kd.R_alloc | apply Kd.R_drewN | apply Kd.R_drew)); exact HO448.out) (Kd.R_base ho0) hb); have n2_ := Aside0.mk (Kd.R_elder' (by (with_reducible repeat (first | apply Kd.R_alloc | apply Kd.R_drewN | apply Kd.R_drew)); exact HO452.out) (Kd.R_base ho0) hb); have n3_ := Aside0.mk (Kd.R_elder' (by (with_reducible repeat (first | apply Kd.R_alloc | apply Kd.R_drewN | apply Kd.R_drew)); exact HO455.out) (Kd.R_base ho0) hb); have n4_ := Aside0.mk (Kd.R_elder' (by (with_reducible repeat (first | apply Kd.R_alloc | apply Kd.R_drewN | apply Kd.R_drew)); exact HO459.out) (Kd.R_base ho0) hb); have n5_ := Aside0.mk (Kd.R_elder' (by (with_reducible repeat (first | apply Kd.R_alloc | apply Kd.R_drewN | apply Kd.R_drew)); exact HO462.out) (Kd.R_base ho0) hb); have n6_ := Aside0.mk (Kd.R_lower (Kd.R_new' (Kd.R_new' (Kd.R_new' (Kd.R_new' (Kd.R_new' (Kd.R_new' ho0 (Kd.R_lt (by (with_reducible repeat (first | apply Kd.R_alloc | apply Kd.R_drewN | apply Kd.R_drew)); exact HO444.out))) (Kd.R_lt (by (with_reducible repeat (first | apply Kd.R_alloc | apply Kd.R_drewN | apply Kd.R_drew)); exact HO448.out))) (Kd.R_lt (by (with_reducible repeat (first | apply Kd.R_alloc | apply Kd.R_drewN | apply Kd.R_drew)); exact HO452.out))) (Kd.R_lt (by (with_reducible repeat (first | apply Kd.R_alloc | apply Kd.R_drewN | apply Kd.R_drew)); exact HO455.out))) (Kd.R_lt (by (with_reducible repeat (first | apply Kd.R_alloc | apply Kd.R_drewN | apply Kd.R_drew)); exact HO459.out))) (Kd.R_lt (by (with_reducible repeat (first | apply Kd.R_alloc | apply Kd.R_drewN | apply Kd.R_drew)); exact HO462.out))) (below_size (by repeat (first | (with_reducible first | exact HB.out | apply below_alloc | apply pw_below_drewN | apply below_drew1) | exact HB.out)))); have n7_ := Aside0.mk (below_step (by repeat (first | (with_reducible first | exact HB.out | apply below_alloc | apply pw_below_drewN | apply below_drew1) | exact HB.out)) hb); clear HO444; clear HO448; clear HO452; clear HO455; clear HO459; clear HO462; clear HB; have HO444 := n0_; have HO448 := n1_; have HO452 := n2_; have HO455 := n3_; have HO459 := n4_; have HO462 := n5_; have HO465 := n6_; have HB := n7_; clear n0_ n1_ n2_ n3_ n4_ n5_ n6_ n7_; (try clear hb); (try clear hb2); (try clear hk); (try clear hi); (try clear ho0); obtain ⟨Ao65, co65, eo65⟩ := Kd.R_slice HO459.out; subst eo65; obtain ⟨Ao66, co66, eo66⟩ := Kd.R_slice HO465.out; subst eo66) | (go_at_call 17; (with_reducible refine (steelyardkeep_Nat.calls kj9 _ _ t457 _ _ t463 true _ ?side1 ?side2 ?side3 ?side4 A50.out).mono ?_); (case side1 => repeat (first | exact (Kd.R_reads' HO459.out).2.2 | (with_reducible refine Kd.C_alloc ?_ _) | (with_reducible refine Kd.C_drewN ?_ _) | (with_reducible refine Kd.C_drew ?_))); (case side2 => exact (Kd.R_reads' HO459.out).2.1); (case side3 => repeat (first | exact (Kd.R_reads' HO465.out).2.2 | (with_reducible refine Kd.C_alloc ?_ _) | (with_reducible refine Kd.C_drewN ?_ _) | (with_reducible refine Kd.C_drew ?_))); (case side4 => exact (Kd.R_reads' HO465.out).2.1); clear A50; rintro e w' ⟨rfl, ⟨nd, rfl⟩⟩) | (go_at_call 13; (with_reducible refine (steelyardlaw02_wakes.calls kj9  t467 _ A52.out).mono ?_); clear A52; rintro e w67 ⟨rfl, hb⟩; have n0_ := Aside0.mk (Kd.R_below (by (with_reducible repeat (first | apply Kd.R_alloc | apply Kd.R_drewN | apply Kd.R_drew)); exact HO444.out) hb); have n1_ := Aside0.mk (Kd.R_below (by (with_reducible repeat (first | apply Kd.R_alloc | apply Kd.R_drewN | apply Kd.R_drew)); exact HO448.out) hb); have n2_ := Aside0.mk (Kd.R_below (by (with_reducible repeat (first | apply Kd.R_alloc | apply Kd.R_drewN | apply Kd.R_drew)); exact HO452.out) hb); have n3_ := Aside0.mk (Kd.R_below (by (with_reducible repeat (first | apply Kd.R_alloc | apply Kd.R_drewN | apply Kd.R_drew)); exact HO455.out) hb); have n4_ := Aside0.mk (Kd.R_below (by (with_reducible repeat (first | apply Kd.R_alloc | apply Kd.R_drewN | apply Kd.R_drew)); exact HO459.out) hb); have n5_ := Aside0.mk (Kd.R_below (by (with_reducible repeat (first | apply Kd.R_alloc | apply Kd.R_drewN | apply Kd.R_drew)); exact HO462.out) hb); have n6_ := Aside0.mk (Kd.R_below (by (with_reducible repeat (first | apply Kd.R_alloc | apply Kd.R_drewN | apply Kd.R_drew)); exact HO465.out) hb); have n7_ := Aside0.mk (below_step (by repeat (first | (with_reducible first | exact HB.out | apply below_alloc | apply pw_below_drewN | apply below_drew1) | exact HB.out)) hb); clear HO444; clear HO448; clear HO452; clear HO455; clear HO459; clear HO462; clear HO465; clear HB; have HO444 := n0_; have HO448 := n1_; have HO452 := n2_; have HO455 := n3_; have HO459 := n4_; have HO462 := n5_; have HO465 := n6_; have HB := n7_; clear n0_ n1_ n2_ n3_ n4_ n5_ n6_ n7_; (try clear hb); (try clear hb2); (try clear hk); (try clear hi)))
                      go_ret
                      exact ⟨by first | rfl | (simp [errW_none, errW_some] <;> rfl) | (simp [*, errW_none, errW_some] <;> rfl), by repeat (first | (with_reducible first | exact HB.out | apply below_alloc | apply pw_below_drewN | apply below_drew1) | exact HB.out)⟩
                    · replace c51 := Bool.eq_false_iff.mpr c51
                      subst c51
                      have H1 : (none) = some r := by rw [if_neg (show ¬ (false = true) by decide)] at H; exact H
                      clear H
                      have H := H1
                      clear H1
                      exact absurd H (by simp)
                  · replace c46 := Bool.eq_false_iff.mpr c46
                    subst c46
                    have H1 : (none) = some r := by rw [if_neg (show ¬ (false = true) by decide)] at H; exact H
                    clear H
                    have H := H1
                    clear H1
                    exact absurd H (by simp)
                · replace c43 := Bool.eq_false_iff.mpr c43
                  subst c43
                  have H1 : (none) = some r := by rw [if_neg (show ¬ (false = true) by decide)] at H; exact H
                  clear H
                  have H := H1
                  clear H1
                  exact absurd H (by simp)
              · replace c42 := Bool.eq_false_iff.mpr c42
                subst c42
                have H1 : (none) = some r := by rw [if_neg (show ¬ (false = true) by decide)] at H; exact H
                clear H
                have H := H1
                clear H1
                exact absurd H (by simp)
            · replace c41 := Bool.eq_false_iff.mpr c41
              subst c41
              have H1 : (none) = some r := by rw [if_neg (show ¬ (false = true) by decide)] at H; exact H
              clear H
              have H := H1
              clear H1
              exact absurd H (by simp)

/-- THE ONE PURE STATEMENT of steelyardlaw02_MulShifts: yours. -/
def steelyardlaw02_MulShifts.Pure : Prop := ∀ (l0 : List Int) (a1 : Int) (a2 : Int), l0.length ≤ maxLen → l0.length * 4 ≤ 140737488351232 → (∀ x ∈ l0, (Lit.int .u32 x).wf = true) → (Lit.int .u8 a1).wf = true → (Lit.int .u8 a2).wf = true → ∃ k, steelyardlaw02_MulShifts.f k l0 a1 a2 = some true
theorem steelyardlaw02_MulShifts.walk (P : steelyardlaw02_MulShifts.Pure) (a0 : Option Addr) (len0 cap0 : Nat) (z0 : List Int) (a1 : Int) (a2 : Int) (w : World) (w0 : (a0 = none ∧ len0 = 0 ∧ cap0 = 0 ∧ z0 = []) ∨ ∃ x, a0 = some x ∧ len0 ≤ cap0 ∧ cap0 ≤ maxLen ∧ z0.length = cap0 ∧ (∀ i, i < z0.length → w.cell? (x.add i) = some (.int .u32 (z0.getD i 0))) ∧ ∀ n ∈ z0, (Lit.int .u32 n).wf = true) (y0 : len0 * 4 ≤ 140737488351232) (w1 : (Lit.int .u8 a1).wf = true) (w2 : (Lit.int .u8 a2).wf = true) :
    Calls Try.prog 4 #[.slice a0 len0 cap0, .int .u8 a1, .int .u8 a2] w fun e w' => e = .returned (.bool true) ∧ Below w.heap.size w w' := by
  obtain ⟨l0, rfl, hr0, hm0, hw0, hc0⟩ := ReadsInt.ofRowC w0
  obtain ⟨k, h⟩ := P l0 a1 a2 hm0 y0 hw0 w1 w2
  refine (steelyardlaw02_MulShifts.calls k _ _ l0 a1 a2 true w (Kd.C_of_reads (d := (0 : Int)) (h1 := fun _ => rfl) hr0) hc0 h).mono ?_
  rintro e w' ⟨rfl, hd⟩
  exact ⟨rfl, hd⟩

end Go.Proofs.Ythcnnkajnmnloaa.P

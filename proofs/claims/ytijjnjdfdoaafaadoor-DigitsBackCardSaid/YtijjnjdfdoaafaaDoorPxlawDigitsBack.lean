-- Written by a program of this session (wip/tool), turned from the kit's print. Lean checks it.
import Derived.Test.YtijjnjdfdoaafaaDoorPx0
import Derived.Test.YtijjnjdfdoaafaaDoorPxnat
import Derived.Test.YtijjnjdfdoaafaaDoorPxmul
import Derived.Test.YtijjnjdfdoaafaaDoorPxdigits
import Derived.Test.YtijjnjdfdoaafaaDoorPxsteelyardkeep
import Derived.Test.YtijjnjdfdoaafaaDoorPxsteelyardlaw05
namespace Go.Proofs.YtijjnjdfdoaafaaDoor.P
open Go.RowKit Go.Proofs.YtijjnjdfdoaafaaDoorW.PrintWords Go.Proofs.YtijjnjdfdoaafaaDoorW.PrintLast Go.Proofs.YtijjnjdfdoaafaaDoorW.PrintMore
attribute [local go_sem] max2_int min2_int max_two min_two max_three min_three max_four min_four   -- for this text's walks alone
set_option linter.unusedVariables false
set_option linter.unusedSimpArgs false

/-! ### steelyardlaw05_DigitsBack: function 4 -/
mutual
def steelyardlaw05_DigitsBack.j0 : Nat → List Int → Int → Int → ByteArray → List Int → Bool → Option (Bool)
  | 0, _, _, _, _, _, _ => none
  | k + 1, x0, x1, x2, x7, x8, x52 => if x52 = true then (none) else (steelyardlaw05_DigitsBack.l0 k x0 x1 x2 x7 x8 (⟨#[]⟩ : ByteArray) 0)
def steelyardlaw05_DigitsBack.l0 : Nat → List Int → Int → Int → ByteArray → List Int → ByteArray → Int → Option (Bool)
  | 0, _, _, _, _, _, _, _ => none
  | k + 1, x0, x1, x2, x7, x8, x10, x11 => if x11 < (Int.tmod (wrap64 (x2)) 20) then (if x10.size + 1 ≤ 9223372036854775807 then (steelyardlaw05_DigitsBack.l0 k x0 x1 x2 x7 x8 (x10 ++ (⟨#[48]⟩ : ByteArray)) (wrap64 (x11 + 1))) else (none)) else (if x10.size + x7.size ≤ 9223372036854775807 then ((digits_Parse.f k (x10 ++ x7)).bind fun bt368 => ((some (([(48 + (Int.tmod x1 10)) % 256] : List Int) : List Int)).bind fun y372 => (if x7.size + (strOfNums y372).size ≤ 9223372036854775807 then ((digits_Parse.f k (x7 ++ (strOfNums y372))).bind fun bt375 => (if bt368.2 = true then (if bt375.2 = true then ((steelyardkeep_Nat.f k bt368.1 x8).bind fun t379 => (if t379 = true then ((mul_Small.f k x0 10).bind fun t380 => ((nat_Of.f k (IntKind.u64.wrap (Int.tmod x1 10))).bind fun t383 => ((nat_Add.f k t380 t383).bind fun t386 => ((steelyardkeep_Nat.f k bt375.1 t386).bind fun t389 => (steelyardlaw05_DigitsBack.j2 k x2 x10 (!t389)))))) else (steelyardlaw05_DigitsBack.j2 k x2 x10 true))) else (steelyardlaw05_DigitsBack.j2 k x2 x10 true)) else (steelyardlaw05_DigitsBack.j2 k x2 x10 true))) else (none)))) else (none))
def steelyardlaw05_DigitsBack.j2 : Nat → Int → ByteArray → Bool → Option (Bool)
  | 0, _, _, _ => none
  | k + 1, x2, x10, x103 => if x103 = true then (none) else ((digits_Ten.f k (Int.tmod (wrap64 (x2)) 20)).bind fun bt390 => (if bt390.2 = true then ((digits_Text.f k bt390.1).bind fun t394 => (if 1 + x10.size ≤ 9223372036854775807 then (if t394.toList = ((⟨#[49]⟩ : ByteArray) ++ x10).toList then ((steelyardlaw05_wakes.f k).bind fun t395 => (some t395)) else (none)) else (none))) else (none)))
end
def steelyardlaw05_DigitsBack.f (k : Nat) (l0 : List Int) (a1 : Int) (a2 : Int) : Option (Bool) := if (l0.length : Int) > 60 then ((steelyardlaw05_wakes.f k).bind fun t358 => (some t358)) else ((digits_Text.f k l0).bind fun t359 => ((digits_Parse.f k t359).bind fun bt360 => (if bt360.2 = true then ((nat_Trim.f k l0).bind fun t364 => ((steelyardkeep_Nat.f k bt360.1 t364).bind fun t367 => (if t367 = true then (if (t359.size : Int) = 0 then (steelyardlaw05_DigitsBack.j0 k l0 a1 a2 t359 bt360.1 true) else (if (t359.size : Int) > 1 then (if 0 < (t359.size : Int) then (steelyardlaw05_DigitsBack.j0 k l0 a1 a2 t359 bt360.1 ((bt t359 0) == 48)) else (none)) else (steelyardlaw05_DigitsBack.j0 k l0 a1 a2 t359 bt360.1 false))) else (steelyardlaw05_DigitsBack.j0 k l0 a1 a2 t359 bt360.1 true)))) else (steelyardlaw05_DigitsBack.j0 k l0 a1 a2 t359 bt360.1 true))))
theorem steelyardlaw05_DigitsBack.mono_l : ∀ k, (∀ y0 y1 y2 y3 y4 y5, LeO (steelyardlaw05_DigitsBack.j0 k y0 y1 y2 y3 y4 y5) (steelyardlaw05_DigitsBack.j0 (k + 1) y0 y1 y2 y3 y4 y5)) ∧ (∀ y0 y1 y2 y3 y4 y5 y6, LeO (steelyardlaw05_DigitsBack.l0 k y0 y1 y2 y3 y4 y5 y6) (steelyardlaw05_DigitsBack.l0 (k + 1) y0 y1 y2 y3 y4 y5 y6)) ∧ (∀ y0 y1 y2, LeO (steelyardlaw05_DigitsBack.j2 k y0 y1 y2) (steelyardlaw05_DigitsBack.j2 (k + 1) y0 y1 y2))
  | 0 => ⟨fun _ _ _ _ _ _ r h => by simp [steelyardlaw05_DigitsBack.j0] at h, fun _ _ _ _ _ _ _ r h => by simp [steelyardlaw05_DigitsBack.l0] at h, fun _ _ _ r h => by simp [steelyardlaw05_DigitsBack.j2] at h⟩
  | k + 1 => by
    obtain ⟨ih0, ih1, ih2⟩ := steelyardlaw05_DigitsBack.mono_l k
    refine ⟨?_, ?_, ?_⟩
    · intro y0 y1 y2 y3 y4 y5
      unfold steelyardlaw05_DigitsBack.j0
      repeat' first
      | (with_reducible exact ih0 _ _ _ _ _ _)
      | (with_reducible exact ih1 _ _ _ _ _ _ _)
      | (with_reducible exact ih2 _ _ _)
      | (with_reducible exact digits_Parse.mono _ _)
      | (with_reducible exact digits_Ten.mono _ _)
      | (with_reducible exact digits_Text.mono _ _)
      | (with_reducible exact mul_Small.mono _ _ _)
      | (with_reducible exact nat_Add.mono _ _ _)
      | (with_reducible exact nat_Of.mono _ _)
      | (with_reducible exact nat_Trim.mono _ _)
      | (with_reducible exact steelyardkeep_Nat.mono _ _ _)
      | (with_reducible exact steelyardlaw05_wakes.mono _)
      | (with_reducible exact LeO.refl _)
      | (with_reducible exact LeO.none _)
      | (with_reducible refine LeO.ite ?_ ?_)
      | (with_reducible refine LeO.bind ?_ (fun _ => ?_))
      | exact ih0 _ _ _ _ _ _
      | exact ih1 _ _ _ _ _ _ _
      | exact ih2 _ _ _
      | exact digits_Parse.mono _ _
      | exact digits_Ten.mono _ _
      | exact digits_Text.mono _ _
      | exact mul_Small.mono _ _ _
      | exact nat_Add.mono _ _ _
      | exact nat_Of.mono _ _
      | exact nat_Trim.mono _ _
      | exact steelyardkeep_Nat.mono _ _ _
      | exact steelyardlaw05_wakes.mono _
      | exact LeO.none _
      | refine LeO.ite ?_ ?_
      | refine LeO.bind ?_ (fun _ => ?_)
    · intro y0 y1 y2 y3 y4 y5 y6
      unfold steelyardlaw05_DigitsBack.l0
      repeat' first
      | (with_reducible exact ih0 _ _ _ _ _ _)
      | (with_reducible exact ih1 _ _ _ _ _ _ _)
      | (with_reducible exact ih2 _ _ _)
      | (with_reducible exact digits_Parse.mono _ _)
      | (with_reducible exact digits_Ten.mono _ _)
      | (with_reducible exact digits_Text.mono _ _)
      | (with_reducible exact mul_Small.mono _ _ _)
      | (with_reducible exact nat_Add.mono _ _ _)
      | (with_reducible exact nat_Of.mono _ _)
      | (with_reducible exact nat_Trim.mono _ _)
      | (with_reducible exact steelyardkeep_Nat.mono _ _ _)
      | (with_reducible exact steelyardlaw05_wakes.mono _)
      | (with_reducible exact LeO.refl _)
      | (with_reducible exact LeO.none _)
      | (with_reducible refine LeO.ite ?_ ?_)
      | (with_reducible refine LeO.bind ?_ (fun _ => ?_))
      | exact ih0 _ _ _ _ _ _
      | exact ih1 _ _ _ _ _ _ _
      | exact ih2 _ _ _
      | exact digits_Parse.mono _ _
      | exact digits_Ten.mono _ _
      | exact digits_Text.mono _ _
      | exact mul_Small.mono _ _ _
      | exact nat_Add.mono _ _ _
      | exact nat_Of.mono _ _
      | exact nat_Trim.mono _ _
      | exact steelyardkeep_Nat.mono _ _ _
      | exact steelyardlaw05_wakes.mono _
      | exact LeO.none _
      | refine LeO.ite ?_ ?_
      | refine LeO.bind ?_ (fun _ => ?_)
    · intro y0 y1 y2
      unfold steelyardlaw05_DigitsBack.j2
      repeat' first
      | (with_reducible exact ih0 _ _ _ _ _ _)
      | (with_reducible exact ih1 _ _ _ _ _ _ _)
      | (with_reducible exact ih2 _ _ _)
      | (with_reducible exact digits_Parse.mono _ _)
      | (with_reducible exact digits_Ten.mono _ _)
      | (with_reducible exact digits_Text.mono _ _)
      | (with_reducible exact mul_Small.mono _ _ _)
      | (with_reducible exact nat_Add.mono _ _ _)
      | (with_reducible exact nat_Of.mono _ _)
      | (with_reducible exact nat_Trim.mono _ _)
      | (with_reducible exact steelyardkeep_Nat.mono _ _ _)
      | (with_reducible exact steelyardlaw05_wakes.mono _)
      | (with_reducible exact LeO.refl _)
      | (with_reducible exact LeO.none _)
      | (with_reducible refine LeO.ite ?_ ?_)
      | (with_reducible refine LeO.bind ?_ (fun _ => ?_))
      | exact ih0 _ _ _ _ _ _
      | exact ih1 _ _ _ _ _ _ _
      | exact ih2 _ _ _
      | exact digits_Parse.mono _ _
      | exact digits_Ten.mono _ _
      | exact digits_Text.mono _ _
      | exact mul_Small.mono _ _ _
      | exact nat_Add.mono _ _ _
      | exact nat_Of.mono _ _
      | exact nat_Trim.mono _ _
      | exact steelyardkeep_Nat.mono _ _ _
      | exact steelyardlaw05_wakes.mono _
      | exact LeO.none _
      | refine LeO.ite ?_ ?_
      | refine LeO.bind ?_ (fun _ => ?_)
theorem steelyardlaw05_DigitsBack.mono : ∀ a0 a1 a2 k, LeO (steelyardlaw05_DigitsBack.f k a0 a1 a2) (steelyardlaw05_DigitsBack.f (k + 1) a0 a1 a2) := by
  intro a0 a1 a2 k
  obtain ⟨ih0, ih1, ih2⟩ := steelyardlaw05_DigitsBack.mono_l k
  unfold steelyardlaw05_DigitsBack.f
  repeat' first
      | (with_reducible exact ih0 _ _ _ _ _ _)
      | (with_reducible exact ih1 _ _ _ _ _ _ _)
      | (with_reducible exact ih2 _ _ _)
      | (with_reducible exact digits_Parse.mono _ _)
      | (with_reducible exact digits_Ten.mono _ _)
      | (with_reducible exact digits_Text.mono _ _)
      | (with_reducible exact mul_Small.mono _ _ _)
      | (with_reducible exact nat_Add.mono _ _ _)
      | (with_reducible exact nat_Of.mono _ _)
      | (with_reducible exact nat_Trim.mono _ _)
      | (with_reducible exact steelyardkeep_Nat.mono _ _ _)
      | (with_reducible exact steelyardlaw05_wakes.mono _)
      | (with_reducible exact LeO.refl _)
      | (with_reducible exact LeO.none _)
      | (with_reducible refine LeO.ite ?_ ?_)
      | (with_reducible refine LeO.bind ?_ (fun _ => ?_))
      | exact ih0 _ _ _ _ _ _
      | exact ih1 _ _ _ _ _ _ _
      | exact ih2 _ _ _
      | exact digits_Parse.mono _ _
      | exact digits_Ten.mono _ _
      | exact digits_Text.mono _ _
      | exact mul_Small.mono _ _ _
      | exact nat_Add.mono _ _ _
      | exact nat_Of.mono _ _
      | exact nat_Trim.mono _ _
      | exact steelyardkeep_Nat.mono _ _ _
      | exact steelyardlaw05_wakes.mono _
      | exact LeO.none _
      | refine LeO.ite ?_ ?_
      | refine LeO.bind ?_ (fun _ => ?_)
set_option maxHeartbeats 8000000 in
set_option maxRecDepth 100000 in
theorem steelyardlaw05_DigitsBack.calls (k : Nat) (A0 : Option Addr) (c0 : Nat) (l0 : List Int) (a1 : Int) (a2 : Int) (r : Bool) (w : World) (hr0 : Kd.C (Kd.int .u32) w A0 l0.length l0) (hc0 : l0.length ≤ c0) (hrT0 : Kd.C (Kd.int .u32) w (some ⟨0, 0, none⟩) tab0_.length tab0_) (h : steelyardlaw05_DigitsBack.f k l0 a1 a2 = some r) :
    Calls Tryd.prog 4 #[.slice A0 l0.length c0, .int .u8 a1, .int .u8 a2] w fun e w' => e = .returned (.bool r) ∧ Below w.heap.size w w' := by
  have HR0 := Aside0.mk hr0
  have HC0 := Aside0.mk hc0
  clear hr0 hc0
  have HRT0 := Aside0.mk hrT0
  clear hrT0
  have HB := Aside0.mk (Below.refl w.heap.size w)
  have H : (if (l0.length : Int) > 60 then ((steelyardlaw05_wakes.f k).bind fun t358 => (some t358)) else ((digits_Text.f k l0).bind fun t359 => ((digits_Parse.f k t359).bind fun bt360 => (if bt360.2 = true then ((nat_Trim.f k l0).bind fun t364 => ((steelyardkeep_Nat.f k bt360.1 t364).bind fun t367 => (if t367 = true then (if (t359.size : Int) = 0 then (steelyardlaw05_DigitsBack.j0 k l0 a1 a2 t359 bt360.1 true) else (if (t359.size : Int) > 1 then (if 0 < (t359.size : Int) then (steelyardlaw05_DigitsBack.j0 k l0 a1 a2 t359 bt360.1 ((bt t359 0) == 48)) else (none)) else (steelyardlaw05_DigitsBack.j0 k l0 a1 a2 t359 bt360.1 false))) else (steelyardlaw05_DigitsBack.j0 k l0 a1 a2 t359 bt360.1 true)))) else (steelyardlaw05_DigitsBack.j0 k l0 a1 a2 t359 bt360.1 true))))) = some r := h
  clear h
  by_cases c4 : (l0.length : Int) > 60
  · rw [if_pos c4] at H
    have c4b0 : decide (60 < (l0.length : Int)) = true := decide_eq_true c4
    have c4b1 : decide (60 < l0.length) = true := decide_eq_true (by omega)
    clear c4
    replace H := Option.bind_eq_some_iff.mp H
    obtain ⟨t358, A50, H⟩ := H
    replace H : (some t358) = some r := H
    have A5 := Aside0.mk A50
    clear A50
    obtain rfl := Option.some.inj H
    go_enter Tryd.func4, Tryd.ntmps4
    go_wp2_with (first | ((with_reducible refine gate_callee (f := 7) rfl ?_); refine goesL_ (some 21) rfl rfl Tryd.func7 (by kernel_rfl) rfl #[] rfl (by (try simp only [List.map_toArray, List.map_cons, List.map_nil]); first | done | rfl | (simp only [List.length_drop, List.length_take]; rfl)) ?_; (with_reducible refine (steelyardlaw05_wakes.calls k  t358 _ ?side1 A5.out).mono ?_); (case side1 => repeat (first | exact HRT0.out | (with_reducible refine Kd.C_alloc ?_ _) | (with_reducible refine Kd.C_drewN ?_ _) | (with_reducible refine Kd.C_drew ?_))); rintro e w6 ⟨rfl, hb⟩; refine ⟨_, rfl, ?_⟩; have n0_ := Aside0.mk (below_step (by repeat (first | (with_reducible first | exact HB.out | apply below_alloc | apply pw_below_drewN | apply below_drew1) | exact HB.out)) hb); clear HB; have HB := n0_; clear n0_; (try clear hb); (try clear hb2); (try clear hk); (try clear hi)))
    go_ret
    exact ⟨by first | rfl | (simp [errW_none, errW_some] <;> rfl) | (simp [*, errW_none, errW_some] <;> rfl), by repeat (first | (with_reducible first | exact HB.out | apply below_alloc | apply pw_below_drewN | apply below_drew1) | exact HB.out)⟩
  · rw [if_neg c4] at H
    have c4b0 : decide (60 < (l0.length : Int)) = false := decide_eq_false c4
    have c4b1 : decide (60 < l0.length) = false := decide_eq_false (by omega)
    clear c4
    replace H := Option.bind_eq_some_iff.mp H
    obtain ⟨t359, A70, H⟩ := H
    replace H : ((digits_Parse.f k t359).bind fun bt360 => (if bt360.2 = true then ((nat_Trim.f k l0).bind fun t364 => ((steelyardkeep_Nat.f k bt360.1 t364).bind fun t367 => (if t367 = true then (if (t359.size : Int) = 0 then (steelyardlaw05_DigitsBack.j0 k l0 a1 a2 t359 bt360.1 true) else (if (t359.size : Int) > 1 then (if 0 < (t359.size : Int) then (steelyardlaw05_DigitsBack.j0 k l0 a1 a2 t359 bt360.1 ((bt t359 0) == 48)) else (none)) else (steelyardlaw05_DigitsBack.j0 k l0 a1 a2 t359 bt360.1 false))) else (steelyardlaw05_DigitsBack.j0 k l0 a1 a2 t359 bt360.1 true)))) else (steelyardlaw05_DigitsBack.j0 k l0 a1 a2 t359 bt360.1 true))) = some r := H
    have A7 := Aside0.mk A70
    clear A70
    replace H := Option.bind_eq_some_iff.mp H
    obtain ⟨⟨t360, t361⟩, A80, H⟩ := H
    replace H : (if t361 = true then ((nat_Trim.f k l0).bind fun t364 => ((steelyardkeep_Nat.f k t360 t364).bind fun t367 => (if t367 = true then (if (t359.size : Int) = 0 then (steelyardlaw05_DigitsBack.j0 k l0 a1 a2 t359 t360 true) else (if (t359.size : Int) > 1 then (if 0 < (t359.size : Int) then (steelyardlaw05_DigitsBack.j0 k l0 a1 a2 t359 t360 ((bt t359 0) == 48)) else (none)) else (steelyardlaw05_DigitsBack.j0 k l0 a1 a2 t359 t360 false))) else (steelyardlaw05_DigitsBack.j0 k l0 a1 a2 t359 t360 true)))) else (steelyardlaw05_DigitsBack.j0 k l0 a1 a2 t359 t360 true)) = some r := H
    have A8 := Aside0.mk A80
    clear A80
    have HC9 := Aside0.mk H
    clear H
    go_enter Tryd.func4, Tryd.ntmps4
    go_upto_region 5 with (first | ((with_reducible refine gate_callee (f := 14) rfl ?_); refine goesL_ (some 23) rfl rfl Tryd.func14 (by kernel_rfl) rfl #[.slice A0 l0.length c0] rfl (by (try simp only [List.map_toArray, List.map_cons, List.map_nil]); first | done | rfl | (simp only [List.length_drop, List.length_take]; rfl)) ?_; (with_reducible refine (digits_Text.calls k _ _ l0 t359 _ ?side1 ?side2 ?side3 A7.out).mono ?_); (case side1 => repeat (first | exact HR0.out | (with_reducible refine Kd.C_alloc ?_ _) | (with_reducible refine Kd.C_drewN ?_ _) | (with_reducible refine Kd.C_drew ?_))); (case side2 => exact HC0.out); (case side3 => repeat (first | exact HRT0.out | (with_reducible refine Kd.C_alloc ?_ _) | (with_reducible refine Kd.C_drewN ?_ _) | (with_reducible refine Kd.C_drew ?_))); rintro e w10 ⟨rfl, hb⟩; refine ⟨_, rfl, ?_⟩; have n0_ := Aside0.mk (below_step (by repeat (first | (with_reducible first | exact HB.out | apply below_alloc | apply pw_below_drewN | apply below_drew1) | exact HB.out)) hb); clear HB; have HB := n0_; clear n0_; (try clear hb); (try clear hb2); (try clear hk); (try clear hi)) | ((with_reducible refine gate_callee (f := 9) rfl ?_); refine goesL_ (some 26) rfl rfl Tryd.func9 (by kernel_rfl) rfl #[.string t359] rfl (by (try simp only [List.map_toArray, List.map_cons, List.map_nil]); first | done | rfl | (simp only [List.length_drop, List.length_take]; rfl)) ?_; (with_reducible refine (digits_Parse.calls k t359 t360 t361 _ ?side1 A8.out).mono ?_); (case side1 => repeat (first | exact (Kd.C_below HRT0.out HB.out) | (with_reducible refine Kd.C_alloc ?_ _) | (with_reducible refine Kd.C_drewN ?_ _) | (with_reducible refine Kd.C_drew ?_))); rintro e w11 ⟨v362, rfl, ho0, hb⟩; refine ⟨_, rfl, ?_⟩; have n0_ := Aside0.mk (Kd.R_lower ho0 (below_size (by repeat (first | (with_reducible first | exact HB.out | apply below_alloc | apply pw_below_drewN | apply below_drew1) | exact HB.out)))); have n1_ := Aside0.mk (below_step (by repeat (first | (with_reducible first | exact HB.out | apply below_alloc | apply pw_below_drewN | apply below_drew1) | exact HB.out)) hb); clear HB; have HO363 := n0_; have HB := n1_; clear n0_ n1_; (try clear hb); (try clear hb2); (try clear hk); (try clear hi); (try clear ho0)))
    (try simp only [Act.put, List.setIfInBounds_toArray, List.set_cons_zero, List.set_cons_succ])
    go_cut [52] (fun v52 wc => ∃ (kq : Nat) (x52_8 : Bool), v52 = .bool x52_8 ∧ Aside0 (steelyardlaw05_DigitsBack.j0 kq l0 a1 a2 t359 t360 x52_8 = some r) ∧ Aside0 (kq ≤ k) ∧ Aside0 (Kd.R (Kd.int .u32) 39 wc w.heap.size (fun _ => True) v362 t360) ∧ Aside0 (Below w.heap.size w wc))
    case first =>
      have H := HC9.out
      clear HC9
      by_cases c12 : t361 = true
      · subst c12
        have H1 : ((nat_Trim.f k l0).bind fun t364 => ((steelyardkeep_Nat.f k t360 t364).bind fun t367 => (if t367 = true then (if (t359.size : Int) = 0 then (steelyardlaw05_DigitsBack.j0 k l0 a1 a2 t359 t360 true) else (if (t359.size : Int) > 1 then (if 0 < (t359.size : Int) then (steelyardlaw05_DigitsBack.j0 k l0 a1 a2 t359 t360 ((bt t359 0) == 48)) else (none)) else (steelyardlaw05_DigitsBack.j0 k l0 a1 a2 t359 t360 false))) else (steelyardlaw05_DigitsBack.j0 k l0 a1 a2 t359 t360 true)))) = some r := by rw [if_pos rfl] at H; exact H
        clear H
        have H := H1
        clear H1
        replace H := Option.bind_eq_some_iff.mp H
        obtain ⟨t364, A130, H⟩ := H
        replace H : ((steelyardkeep_Nat.f k t360 t364).bind fun t367 => (if t367 = true then (if (t359.size : Int) = 0 then (steelyardlaw05_DigitsBack.j0 k l0 a1 a2 t359 t360 true) else (if (t359.size : Int) > 1 then (if 0 < (t359.size : Int) then (steelyardlaw05_DigitsBack.j0 k l0 a1 a2 t359 t360 ((bt t359 0) == 48)) else (none)) else (steelyardlaw05_DigitsBack.j0 k l0 a1 a2 t359 t360 false))) else (steelyardlaw05_DigitsBack.j0 k l0 a1 a2 t359 t360 true))) = some r := H
        have A13 := Aside0.mk A130
        clear A130
        replace H := Option.bind_eq_some_iff.mp H
        obtain ⟨t367, A140, H⟩ := H
        replace H : (if t367 = true then (if (t359.size : Int) = 0 then (steelyardlaw05_DigitsBack.j0 k l0 a1 a2 t359 t360 true) else (if (t359.size : Int) > 1 then (if 0 < (t359.size : Int) then (steelyardlaw05_DigitsBack.j0 k l0 a1 a2 t359 t360 ((bt t359 0) == 48)) else (none)) else (steelyardlaw05_DigitsBack.j0 k l0 a1 a2 t359 t360 false))) else (steelyardlaw05_DigitsBack.j0 k l0 a1 a2 t359 t360 true)) = some r := H
        have A14 := Aside0.mk A140
        clear A140
        by_cases c15 : t367 = true
        · subst c15
          have H1 : (if (t359.size : Int) = 0 then (steelyardlaw05_DigitsBack.j0 k l0 a1 a2 t359 t360 true) else (if (t359.size : Int) > 1 then (if 0 < (t359.size : Int) then (steelyardlaw05_DigitsBack.j0 k l0 a1 a2 t359 t360 ((bt t359 0) == 48)) else (none)) else (steelyardlaw05_DigitsBack.j0 k l0 a1 a2 t359 t360 false))) = some r := by rw [if_pos rfl] at H; exact H
          clear H
          have H := H1
          clear H1
          by_cases c16 : (t359.size : Int) = 0
          · rw [if_pos c16] at H
            have c16b0 : ((t359.size : Int) == 0) = true := beq_iff_eq.mpr c16
            have c16b1 : ((t359.size : Int) != 0) = false := bne_eq_false_iff_eq.mpr c16
            clear c16
            (first | rw [c16b0] | rw [c16b1] | (simp only [i64_w, i32_w]; rw [c16b0]) | skip)
            have H' := Aside0.mk H
            clear H
            go_wp2_with (first | (go_at_call 16; (with_reducible refine (nat_Trim.calls k _ _ l0 t364 _ ?side1 ?side2 A13.out).mono ?_); (case side1 => repeat (first | exact (Kd.C_below HR0.out HB.out) | (with_reducible refine Kd.C_alloc ?_ _) | (with_reducible refine Kd.C_drewN ?_ _) | (with_reducible refine Kd.C_drew ?_))); (case side2 => exact HC0.out); clear A13; rintro e w17 ⟨v365, rfl, ho0, hb⟩; have n0_ := Aside0.mk (Kd.R_elder' (by (with_reducible repeat (first | apply Kd.R_alloc | apply Kd.R_drewN | apply Kd.R_drew)); exact HO363.out) (Kd.R_base ho0) hb); have n1_ := Aside0.mk (Kd.R_lower (Kd.R_new' ho0 (Kd.R_lt (by (with_reducible repeat (first | apply Kd.R_alloc | apply Kd.R_drewN | apply Kd.R_drew)); exact HO363.out))) (below_size (by repeat (first | (with_reducible first | exact HB.out | apply below_alloc | apply pw_below_drewN | apply below_drew1) | exact HB.out)))); have n2_ := Aside0.mk (below_step (by repeat (first | (with_reducible first | exact HB.out | apply below_alloc | apply pw_below_drewN | apply below_drew1) | exact HB.out)) hb); clear HO363; clear HB; have HO363 := n0_; have HO366 := n1_; have HB := n2_; clear n0_ n1_ n2_; (try clear hb); (try clear hb2); (try clear hk); (try clear hi); (try clear ho0); obtain ⟨Ao18, co18, eo18⟩ := Kd.R_slice HO363.out; subst eo18; obtain ⟨Ao19, co19, eo19⟩ := Kd.R_slice HO366.out; subst eo19) | (go_at_call 12; (with_reducible refine (steelyardkeep_Nat.calls k _ _ t360 _ _ t364 true _ ?side1 ?side2 ?side3 ?side4 A14.out).mono ?_); (case side1 => repeat (first | exact (Kd.R_reads' HO363.out).2.2 | (with_reducible refine Kd.C_alloc ?_ _) | (with_reducible refine Kd.C_drewN ?_ _) | (with_reducible refine Kd.C_drew ?_))); (case side2 => exact (Kd.R_reads' HO363.out).2.1); (case side3 => repeat (first | exact (Kd.R_reads' HO366.out).2.2 | (with_reducible refine Kd.C_alloc ?_ _) | (with_reducible refine Kd.C_drewN ?_ _) | (with_reducible refine Kd.C_drew ?_))); (case side4 => exact (Kd.R_reads' HO366.out).2.1); clear A14; rintro e w' ⟨rfl, ⟨nd, rfl⟩⟩))
            go_meet
            case rel => exact ⟨_, (true), (by first | rfl | (simp; done) | (simp [*]; done)), H', ⟨by first | omega | exact Nat.le_refl _⟩, ⟨by (with_reducible repeat (first | apply Kd.R_alloc | apply Kd.R_drewN | apply Kd.R_drew)); exact Kd.R_mono HO363.out (fun _ hk => trivial)⟩, ⟨by repeat (first | (with_reducible first | exact HB.out | apply below_alloc | apply pw_below_drewN | apply below_drew1) | exact HB.out)⟩⟩
          · rw [if_neg c16] at H
            have c16b0 : ((t359.size : Int) == 0) = false := beq_eq_false_iff_ne.mpr c16
            have c16b1 : ((t359.size : Int) != 0) = true := bne_iff_ne.mpr c16
            (first | rw [c16b0] | rw [c16b1] | (simp only [i64_w, i32_w]; rw [c16b0]) | skip)
            by_cases c20 : (t359.size : Int) > 1
            · rw [if_pos c20] at H
              have c20b0 : decide (1 < (t359.size : Int)) = true := decide_eq_true c20
              have c20b1 : decide (1 < t359.size) = true := decide_eq_true (by omega)
              clear c20
              by_cases c21 : 0 < (t359.size : Int)
              · rw [if_pos c21] at H
                have c21b0 : decide (0 < (t359.size : Int)) = true := decide_eq_true c21
                have c21b1 : decide (0 < t359.size) = true := decide_eq_true (by omega)
                clear c21
                have H' := Aside0.mk H
                clear H
                go_wp2_with (first | (go_at_call 16; (with_reducible refine (nat_Trim.calls k _ _ l0 t364 _ ?side1 ?side2 A13.out).mono ?_); (case side1 => repeat (first | exact (Kd.C_below HR0.out HB.out) | (with_reducible refine Kd.C_alloc ?_ _) | (with_reducible refine Kd.C_drewN ?_ _) | (with_reducible refine Kd.C_drew ?_))); (case side2 => exact HC0.out); clear A13; rintro e w23 ⟨v365, rfl, ho0, hb⟩; have n0_ := Aside0.mk (Kd.R_elder' (by (with_reducible repeat (first | apply Kd.R_alloc | apply Kd.R_drewN | apply Kd.R_drew)); exact HO363.out) (Kd.R_base ho0) hb); have n1_ := Aside0.mk (Kd.R_lower (Kd.R_new' ho0 (Kd.R_lt (by (with_reducible repeat (first | apply Kd.R_alloc | apply Kd.R_drewN | apply Kd.R_drew)); exact HO363.out))) (below_size (by repeat (first | (with_reducible first | exact HB.out | apply below_alloc | apply pw_below_drewN | apply below_drew1) | exact HB.out)))); have n2_ := Aside0.mk (below_step (by repeat (first | (with_reducible first | exact HB.out | apply below_alloc | apply pw_below_drewN | apply below_drew1) | exact HB.out)) hb); clear HO363; clear HB; have HO363 := n0_; have HO366 := n1_; have HB := n2_; clear n0_ n1_ n2_; (try clear hb); (try clear hb2); (try clear hk); (try clear hi); (try clear ho0); obtain ⟨Ao24, co24, eo24⟩ := Kd.R_slice HO363.out; subst eo24; obtain ⟨Ao25, co25, eo25⟩ := Kd.R_slice HO366.out; subst eo25) | (go_at_call 12; (with_reducible refine (steelyardkeep_Nat.calls k _ _ t360 _ _ t364 true _ ?side1 ?side2 ?side3 ?side4 A14.out).mono ?_); (case side1 => repeat (first | exact (Kd.R_reads' HO363.out).2.2 | (with_reducible refine Kd.C_alloc ?_ _) | (with_reducible refine Kd.C_drewN ?_ _) | (with_reducible refine Kd.C_drew ?_))); (case side2 => exact (Kd.R_reads' HO363.out).2.1); (case side3 => repeat (first | exact (Kd.R_reads' HO366.out).2.2 | (with_reducible refine Kd.C_alloc ?_ _) | (with_reducible refine Kd.C_drewN ?_ _) | (with_reducible refine Kd.C_drew ?_))); (case side4 => exact (Kd.R_reads' HO366.out).2.1); clear A14; rintro e w' ⟨rfl, ⟨nd, rfl⟩⟩; have p22 : 0 ≤ (0 : Int) := (by omega); have q22 : 0 < t359.size := (by have : (0 : Int) < (t359.size : Int) := of_decide_eq_true (by first | (with_reducible assumption) | assumption); omega); have hx22 : ∀ h : 0 < t359.size, ((t359[0]'h).toNat : Int) = bt t359 0 := bt_at t359 0; clear p22; have qi22 : (0 < (t359.size : Int)) = True := eq_true (of_decide_eq_true (by first | (with_reducible assumption) | assumption)); replace q22 := eq_true q22))
                go_meet
                case rel => exact ⟨_, (((bt t359 0) == 48)), (by first | rfl | (simp; done) | (simp [*]; done)), H', ⟨by first | omega | exact Nat.le_refl _⟩, ⟨by (with_reducible repeat (first | apply Kd.R_alloc | apply Kd.R_drewN | apply Kd.R_drew)); exact Kd.R_mono HO363.out (fun _ hk => trivial)⟩, ⟨by repeat (first | (with_reducible first | exact HB.out | apply below_alloc | apply pw_below_drewN | apply below_drew1) | exact HB.out)⟩⟩
              · rw [if_neg c21] at H
                exact absurd H (by simp)
            · rw [if_neg c20] at H
              have c20b0 : decide (1 < (t359.size : Int)) = false := decide_eq_false c20
              have c20b1 : decide (1 < t359.size) = false := decide_eq_false (by omega)
              clear c20
              have H' := Aside0.mk H
              clear H
              go_wp2_with (first | (go_at_call 16; (with_reducible refine (nat_Trim.calls k _ _ l0 t364 _ ?side1 ?side2 A13.out).mono ?_); (case side1 => repeat (first | exact (Kd.C_below HR0.out HB.out) | (with_reducible refine Kd.C_alloc ?_ _) | (with_reducible refine Kd.C_drewN ?_ _) | (with_reducible refine Kd.C_drew ?_))); (case side2 => exact HC0.out); clear A13; rintro e w26 ⟨v365, rfl, ho0, hb⟩; have n0_ := Aside0.mk (Kd.R_elder' (by (with_reducible repeat (first | apply Kd.R_alloc | apply Kd.R_drewN | apply Kd.R_drew)); exact HO363.out) (Kd.R_base ho0) hb); have n1_ := Aside0.mk (Kd.R_lower (Kd.R_new' ho0 (Kd.R_lt (by (with_reducible repeat (first | apply Kd.R_alloc | apply Kd.R_drewN | apply Kd.R_drew)); exact HO363.out))) (below_size (by repeat (first | (with_reducible first | exact HB.out | apply below_alloc | apply pw_below_drewN | apply below_drew1) | exact HB.out)))); have n2_ := Aside0.mk (below_step (by repeat (first | (with_reducible first | exact HB.out | apply below_alloc | apply pw_below_drewN | apply below_drew1) | exact HB.out)) hb); clear HO363; clear HB; have HO363 := n0_; have HO366 := n1_; have HB := n2_; clear n0_ n1_ n2_; (try clear hb); (try clear hb2); (try clear hk); (try clear hi); (try clear ho0); obtain ⟨Ao27, co27, eo27⟩ := Kd.R_slice HO363.out; subst eo27; obtain ⟨Ao28, co28, eo28⟩ := Kd.R_slice HO366.out; subst eo28) | (go_at_call 12; (with_reducible refine (steelyardkeep_Nat.calls k _ _ t360 _ _ t364 true _ ?side1 ?side2 ?side3 ?side4 A14.out).mono ?_); (case side1 => repeat (first | exact (Kd.R_reads' HO363.out).2.2 | (with_reducible refine Kd.C_alloc ?_ _) | (with_reducible refine Kd.C_drewN ?_ _) | (with_reducible refine Kd.C_drew ?_))); (case side2 => exact (Kd.R_reads' HO363.out).2.1); (case side3 => repeat (first | exact (Kd.R_reads' HO366.out).2.2 | (with_reducible refine Kd.C_alloc ?_ _) | (with_reducible refine Kd.C_drewN ?_ _) | (with_reducible refine Kd.C_drew ?_))); (case side4 => exact (Kd.R_reads' HO366.out).2.1); clear A14; rintro e w' ⟨rfl, ⟨nd, rfl⟩⟩))
              go_meet
              case rel => exact ⟨_, (false), (by first | rfl | (simp; done) | (simp [*]; done)), H', ⟨by first | omega | exact Nat.le_refl _⟩, ⟨by (with_reducible repeat (first | apply Kd.R_alloc | apply Kd.R_drewN | apply Kd.R_drew)); exact Kd.R_mono HO363.out (fun _ hk => trivial)⟩, ⟨by repeat (first | (with_reducible first | exact HB.out | apply below_alloc | apply pw_below_drewN | apply below_drew1) | exact HB.out)⟩⟩
        · replace c15 := Bool.eq_false_iff.mpr c15
          subst c15
          have H1 : (steelyardlaw05_DigitsBack.j0 k l0 a1 a2 t359 t360 true) = some r := by rw [if_neg (show ¬ (false = true) by decide)] at H; exact H
          clear H
          have H := H1
          clear H1
          have H' := Aside0.mk H
          clear H
          go_wp2_with (first | (go_at_call 16; (with_reducible refine (nat_Trim.calls k _ _ l0 t364 _ ?side1 ?side2 A13.out).mono ?_); (case side1 => repeat (first | exact (Kd.C_below HR0.out HB.out) | (with_reducible refine Kd.C_alloc ?_ _) | (with_reducible refine Kd.C_drewN ?_ _) | (with_reducible refine Kd.C_drew ?_))); (case side2 => exact HC0.out); clear A13; rintro e w29 ⟨v365, rfl, ho0, hb⟩; have n0_ := Aside0.mk (Kd.R_elder' (by (with_reducible repeat (first | apply Kd.R_alloc | apply Kd.R_drewN | apply Kd.R_drew)); exact HO363.out) (Kd.R_base ho0) hb); have n1_ := Aside0.mk (Kd.R_lower (Kd.R_new' ho0 (Kd.R_lt (by (with_reducible repeat (first | apply Kd.R_alloc | apply Kd.R_drewN | apply Kd.R_drew)); exact HO363.out))) (below_size (by repeat (first | (with_reducible first | exact HB.out | apply below_alloc | apply pw_below_drewN | apply below_drew1) | exact HB.out)))); have n2_ := Aside0.mk (below_step (by repeat (first | (with_reducible first | exact HB.out | apply below_alloc | apply pw_below_drewN | apply below_drew1) | exact HB.out)) hb); clear HO363; clear HB; have HO363 := n0_; have HO366 := n1_; have HB := n2_; clear n0_ n1_ n2_; (try clear hb); (try clear hb2); (try clear hk); (try clear hi); (try clear ho0); obtain ⟨Ao30, co30, eo30⟩ := Kd.R_slice HO363.out; subst eo30; obtain ⟨Ao31, co31, eo31⟩ := Kd.R_slice HO366.out; subst eo31) | (go_at_call 12; (with_reducible refine (steelyardkeep_Nat.calls k _ _ t360 _ _ t364 false _ ?side1 ?side2 ?side3 ?side4 A14.out).mono ?_); (case side1 => repeat (first | exact (Kd.R_reads' HO363.out).2.2 | (with_reducible refine Kd.C_alloc ?_ _) | (with_reducible refine Kd.C_drewN ?_ _) | (with_reducible refine Kd.C_drew ?_))); (case side2 => exact (Kd.R_reads' HO363.out).2.1); (case side3 => repeat (first | exact (Kd.R_reads' HO366.out).2.2 | (with_reducible refine Kd.C_alloc ?_ _) | (with_reducible refine Kd.C_drewN ?_ _) | (with_reducible refine Kd.C_drew ?_))); (case side4 => exact (Kd.R_reads' HO366.out).2.1); clear A14; rintro e w' ⟨rfl, ⟨nd, rfl⟩⟩))
          go_meet
          case rel => exact ⟨_, (true), (by first | rfl | (simp; done) | (simp [*]; done)), H', ⟨by first | omega | exact Nat.le_refl _⟩, ⟨by (with_reducible repeat (first | apply Kd.R_alloc | apply Kd.R_drewN | apply Kd.R_drew)); exact Kd.R_mono HO363.out (fun _ hk => trivial)⟩, ⟨by repeat (first | (with_reducible first | exact HB.out | apply below_alloc | apply pw_below_drewN | apply below_drew1) | exact HB.out)⟩⟩
      · replace c12 := Bool.eq_false_iff.mpr c12
        subst c12
        have H1 : (steelyardlaw05_DigitsBack.j0 k l0 a1 a2 t359 t360 true) = some r := by rw [if_neg (show ¬ (false = true) by decide)] at H; exact H
        clear H
        have H := H1
        clear H1
        have H' := Aside0.mk H
        clear H
        go_wp2
        go_meet
        case rel => exact ⟨_, (true), (by first | rfl | (simp; done) | (simp [*]; done)), H', ⟨by first | omega | exact Nat.le_refl _⟩, ⟨by (with_reducible repeat (first | apply Kd.R_alloc | apply Kd.R_drewN | apply Kd.R_drew)); exact HO363.out⟩, ⟨by repeat (first | (with_reducible first | exact HB.out | apply below_alloc | apply pw_below_drewN | apply below_drew1) | exact HB.out)⟩⟩
    case rest =>
      clear HC9
      try clear c1
      try clear c2
      try clear p2
      try clear q2
      try clear hx2
      try clear qi2
      try clear c4
      try clear c4b0
      try clear c4b1
      try clear c7
      try clear c9
      try clear c12
      try clear c14
      try clear c15
      try clear c16
      try clear c16b0
      try clear c16b1
      try clear c20
      try clear c20b0
      try clear c20b1
      try clear c21
      try clear c21b0
      try clear c21b1
      try clear p22
      try clear q22
      try clear hx22
      try clear qi22
      try clear p22
      try clear q22
      obtain ⟨kq, x52_8, rfl, HA, HJ8, HO_8, HB⟩ := hcut
      cases kq with
      | zero => exact absurd HA.out (by simp [steelyardlaw05_DigitsBack.j0])
      | succ kj8 =>
        have H := HA.out
        clear HA
        simp only [steelyardlaw05_DigitsBack.j0] at H
        by_cases c32 : x52_8 = true
        · subst c32
          have H1 : (none) = some r := by rw [if_pos rfl] at H; exact H
          clear H
          have H := H1
          clear H1
          exact absurd H (by simp)
        · replace c32 := Bool.eq_false_iff.mpr c32
          subst c32
          have H1 : (steelyardlaw05_DigitsBack.l0 kj8 l0 a1 a2 t359 t360 (⟨#[]⟩ : ByteArray) 0) = some r := by rw [if_neg (show ¬ (false = true) by decide)] at H; exact H
          clear H
          have H := H1
          clear H1
          have H' := Aside0.mk H
          clear H
          go_wp2
          go_loopg [10, 11] kj8 (fun kq v10 v11 w' => ∃ (x10_2 : ByteArray) (x11_2 : Int), v10 = .string x10_2 ∧ v11 = .int .i64 x11_2 ∧ Aside0 (steelyardlaw05_DigitsBack.l0 kq l0 a1 a2 t359 t360 x10_2 x11_2 = some r) ∧ Aside0 (kq ≤ kj8) ∧ Aside0 (Kd.R (Kd.int .u32) 39 w' w.heap.size (fun _ => True) v362 t360) ∧ Aside0 (Below w.heap.size w w'))
          case atStart => exact ⟨((⟨#[]⟩ : ByteArray)), (0), (by first | rfl | (simp; done) | (simp [*]; done)), (by first | rfl | (simp; done) | (simp [*]; done)), H', ⟨Nat.le_refl _⟩, ⟨by (with_reducible repeat (first | apply Kd.R_alloc | apply Kd.R_drewN | apply Kd.R_drew)); exact HO_8.out⟩, ⟨by repeat (first | (with_reducible first | exact HB.out | apply below_alloc | apply pw_below_drewN | apply below_drew1) | exact HB.out)⟩⟩
          case round =>
            clear H'
            try clear c1
            try clear c2
            try clear p2
            try clear q2
            try clear hx2
            try clear qi2
            try clear c3
            try clear c4
            try clear c4b0
            try clear c4b1
            try clear c7
            try clear c9
            try clear c12
            try clear c14
            try clear c15
            try clear c16
            try clear c16b0
            try clear c16b1
            try clear c20
            try clear c20b0
            try clear c20b1
            try clear c21
            try clear c21b0
            try clear c21b1
            try clear p22
            try clear q22
            try clear hx22
            try clear qi22
            try clear c32
            try clear p2
            try clear p22
            try clear q2
            try clear q22
            obtain ⟨x10_2, x11_2, rfl, rfl, HA, HK2, HO_8, HB⟩ := hrel
            cases gk with
            | zero => exact absurd HA.out (by simp [steelyardlaw05_DigitsBack.l0])
            | succ k2 =>
              have H := HA.out
              clear HA
              simp only [steelyardlaw05_DigitsBack.l0] at H
              by_cases c33 : x11_2 < (Int.tmod (wrap64 (a2)) 20)
              · rw [if_pos c33] at H
                have c33b0 : decide (x11_2 < (Int.tmod (wrap64 (a2)) 20)) = true := decide_eq_true c33
                clear c33
                by_cases c34 : x10_2.size + 1 ≤ 9223372036854775807
                · rw [if_pos c34] at H
                  have c34b0 := eq_true c34
                  have c34b1 : decide (x10_2.size + 1 ≤ 9223372036854775807) = true := decide_eq_true c34
                  try have c34b2 : (9223372036854775807 < x10_2.size + 1) = False := eq_false (Nat.not_lt.2 c34)
                  have H' := Aside0.mk H
                  clear H
                  go_wp2
                  go_roundg k2
                  case measure => have := HJ8.out; have := HK2.out; omega
                  case rel => exact ⟨(x10_2 ++ (⟨#[48]⟩ : ByteArray)), (wrap64 (x11_2 + 1)), (by first | rfl | (simp; done) | (simp [*]; done)), (by first | rfl | (simp; done) | (simp [*]; done)), H', ⟨by have := HJ8.out; have := HK2.out; omega⟩, ⟨by (with_reducible repeat (first | apply Kd.R_alloc | apply Kd.R_drewN | apply Kd.R_drew)); exact HO_8.out⟩, ⟨by repeat (first | (with_reducible first | exact HB.out | apply below_alloc | apply pw_below_drewN | apply below_drew1) | exact HB.out)⟩⟩
                · rw [if_neg c34] at H
                  exact absurd H (by simp)
              · rw [if_neg c33] at H
                have c33b0 : decide (x11_2 < (Int.tmod (wrap64 (a2)) 20)) = false := decide_eq_false c33
                clear c33
                by_cases c35 : x10_2.size + t359.size ≤ 9223372036854775807
                · rw [if_pos c35] at H
                  have c35b0 := eq_true c35
                  have c35b1 : decide (x10_2.size + t359.size ≤ 9223372036854775807) = true := decide_eq_true c35
                  try have c35b2 : (9223372036854775807 < x10_2.size + t359.size) = False := eq_false (Nat.not_lt.2 c35)
                  replace H := Option.bind_eq_some_iff.mp H
                  obtain ⟨⟨t368, t369⟩, A360, H⟩ := H
                  replace H : ((some (([(48 + (Int.tmod a1 10)) % 256] : List Int) : List Int)).bind fun y372 => (if t359.size + (strOfNums y372).size ≤ 9223372036854775807 then ((digits_Parse.f k2 (t359 ++ (strOfNums y372))).bind fun bt375 => (if t369 = true then (if bt375.2 = true then ((steelyardkeep_Nat.f k2 t368 t360).bind fun t379 => (if t379 = true then ((mul_Small.f k2 l0 10).bind fun t380 => ((nat_Of.f k2 (IntKind.u64.wrap (Int.tmod a1 10))).bind fun t383 => ((nat_Add.f k2 t380 t383).bind fun t386 => ((steelyardkeep_Nat.f k2 bt375.1 t386).bind fun t389 => (steelyardlaw05_DigitsBack.j2 k2 a2 x10_2 (!t389)))))) else (steelyardlaw05_DigitsBack.j2 k2 a2 x10_2 true))) else (steelyardlaw05_DigitsBack.j2 k2 a2 x10_2 true)) else (steelyardlaw05_DigitsBack.j2 k2 a2 x10_2 true))) else (none))) = some r := H
                  have A36 := Aside0.mk A360
                  clear A360
                  obtain ⟨y372, hy372⟩ : ∃ y_ : List Int, y_ = (([(48 + (Int.tmod a1 10)) % 256] : List Int)) := ⟨_, rfl⟩
                  replace H : (if t359.size + (strOfNums y372).size ≤ 9223372036854775807 then ((digits_Parse.f k2 (t359 ++ (strOfNums y372))).bind fun bt375 => (if t369 = true then (if bt375.2 = true then ((steelyardkeep_Nat.f k2 t368 t360).bind fun t379 => (if t379 = true then ((mul_Small.f k2 l0 10).bind fun t380 => ((nat_Of.f k2 (IntKind.u64.wrap (Int.tmod a1 10))).bind fun t383 => ((nat_Add.f k2 t380 t383).bind fun t386 => ((steelyardkeep_Nat.f k2 bt375.1 t386).bind fun t389 => (steelyardlaw05_DigitsBack.j2 k2 a2 x10_2 (!t389)))))) else (steelyardlaw05_DigitsBack.j2 k2 a2 x10_2 true))) else (steelyardlaw05_DigitsBack.j2 k2 a2 x10_2 true)) else (steelyardlaw05_DigitsBack.j2 k2 a2 x10_2 true))) else (none)) = some r := by first | (rw [hy372]; with_reducible exact H) | (have H2_ := (Option.bind_some _ _).symm.trans H; rw [hy372]; with_reducible exact H2_) | (have H2_ := (Option.bind_some _ _).symm.trans H; with_reducible exact H2_) | with_reducible exact H | (rw [hy372]; exact H) | exact H
                  have Ny372 := Aside0.mk hy372
                  clear hy372
                  by_cases c37 : t359.size + (strOfNums y372).size ≤ 9223372036854775807
                  · rw [if_pos c37] at H
                    have c37b0 := eq_true c37
                    have c37b1 : decide (t359.size + (strOfNums y372).size ≤ 9223372036854775807) = true := decide_eq_true c37
                    try have c37b2 : (9223372036854775807 < t359.size + (strOfNums y372).size) = False := eq_false (Nat.not_lt.2 c37)
                    replace H := Option.bind_eq_some_iff.mp H
                    obtain ⟨⟨t375, t376⟩, A380, H⟩ := H
                    replace H : (if t369 = true then (if t376 = true then ((steelyardkeep_Nat.f k2 t368 t360).bind fun t379 => (if t379 = true then ((mul_Small.f k2 l0 10).bind fun t380 => ((nat_Of.f k2 (IntKind.u64.wrap (Int.tmod a1 10))).bind fun t383 => ((nat_Add.f k2 t380 t383).bind fun t386 => ((steelyardkeep_Nat.f k2 t375 t386).bind fun t389 => (steelyardlaw05_DigitsBack.j2 k2 a2 x10_2 (!t389)))))) else (steelyardlaw05_DigitsBack.j2 k2 a2 x10_2 true))) else (steelyardlaw05_DigitsBack.j2 k2 a2 x10_2 true)) else (steelyardlaw05_DigitsBack.j2 k2 a2 x10_2 true)) = some r := H
                    have A38 := Aside0.mk A380
                    clear A380
                    have HC39 := Aside0.mk H
                    clear H
                    go_upto_region 14 with (first | ((with_reducible refine gate_callee (f := 9) rfl ?_); refine goesL_ (some 66) rfl rfl Tryd.func9 (by kernel_rfl) rfl #[.string (x10_2 ++ t359)] rfl (by (try simp only [List.map_toArray, List.map_cons, List.map_nil]); first | done | rfl | (simp only [List.length_drop, List.length_take]; rfl)) ?_; (with_reducible refine (digits_Parse.calls k2 (x10_2 ++ t359) t368 t369 _ ?side1 A36.out).mono ?_); (case side1 => repeat (first | exact (Kd.C_below HRT0.out HB.out) | (with_reducible refine Kd.C_alloc ?_ _) | (with_reducible refine Kd.C_drewN ?_ _) | (with_reducible refine Kd.C_drew ?_))); rintro e w40 ⟨v370, rfl, ho0, hb⟩; refine ⟨_, rfl, ?_⟩; have n0_ := Aside0.mk (Kd.R_elder' (by (with_reducible repeat (first | apply Kd.R_alloc | apply Kd.R_drewN | apply Kd.R_drew)); exact HO_8.out) (Kd.R_base ho0) hb); have n1_ := Aside0.mk (Kd.R_lower (Kd.R_new' ho0 (Kd.R_lt (by (with_reducible repeat (first | apply Kd.R_alloc | apply Kd.R_drewN | apply Kd.R_drew)); exact HO_8.out))) (below_size (by repeat (first | (with_reducible first | exact HB.out | apply below_alloc | apply pw_below_drewN | apply below_drew1) | exact HB.out)))); have n2_ := Aside0.mk (below_step (by repeat (first | (with_reducible first | exact HB.out | apply below_alloc | apply pw_below_drewN | apply below_drew1) | exact HB.out)) hb); clear HO_8; clear HB; have HO_8 := n0_; have HO371 := n1_; have HB := n2_; clear n0_ n1_ n2_; (try clear hb); (try clear hb2); (try clear hk); (try clear hi); (try clear ho0)) | ((with_reducible refine gate_dst (N := 74) rfl ?_); (try (refine gate_guard (by rfl) ?_; dsimp only)); refine Kd.R_lit (Kd.int .u8) _ 5 ?hg (N := 74) ?hd (xs := ([(48 + (Int.tmod a1 10)) % 256] : List Int)) (inner := [.int .u8 ((48 + (Int.tmod a1 10)) % 256)]) (ok := fun _ => True) (okp := fun _ => True) ?hr ?hp (fun _ hk => hk) trivial (Below.refl _ _) (Nat.le_refl _) (by simp) ?_; (case hd => rfl); (case hg => rfl); (case hr => first | (go_simp; done) | (go_simp; rfl) | (go_simp; simp only [u32_u8, u64_u8]; first | done | rfl)); (case hp => exact (Reps.one (show Kd.M (Kd.int .u8) _ _ _ ((48 + (Int.tmod a1 10)) % 256) [.int .u8 ((48 + (Int.tmod a1 10)) % 256)] from rfl) (Reps.none _ _))); intro v373 w41 ho42 hb hg_ hnew_; clear hg_ hnew_; (first | rw [← Ny372.out] at ho42 | (simp only [Int.reduceToNat] at ho42; rw [← Ny372.out] at ho42)); have n0_ := Aside0.mk (Kd.R_below (by (with_reducible repeat (first | apply Kd.R_alloc | apply Kd.R_drewN | apply Kd.R_drew)); exact HO_8.out) hb); have n1_ := Aside0.mk (Kd.R_below (by (with_reducible repeat (first | apply Kd.R_alloc | apply Kd.R_drewN | apply Kd.R_drew)); exact HO371.out) hb); have n2_ := Aside0.mk (Kd.R_lower ho42 (below_size (by repeat (first | (with_reducible first | exact HB.out | apply below_alloc | apply pw_below_drewN | apply below_drew1) | exact HB.out)))); have n3_ := Aside0.mk (below_step (by repeat (first | (with_reducible first | exact HB.out | apply below_alloc | apply pw_below_drewN | apply below_drew1) | exact HB.out)) hb); clear HO_8; clear HO371; clear HB; have HO_8 := n0_; have HO371 := n1_; have HO374 := n2_; have HB := n3_; clear n0_ n1_ n2_ n3_; clear hb ho42; have hcv43 := own_string (P := Tryd.prog) Tryd.underlying36 Tryd.underlying5 Tryd.underlying9 (Kd.own_of_R HO374.out)) | ((with_reducible refine gate_callee (f := 9) rfl ?_); refine goesL_ (some 77) rfl rfl Tryd.func9 (by kernel_rfl) rfl #[.string (t359 ++ (strOfNums y372))] rfl (by (try simp only [List.map_toArray, List.map_cons, List.map_nil]); first | done | rfl | (simp only [List.length_drop, List.length_take]; rfl)) ?_; (with_reducible refine (digits_Parse.calls k2 (t359 ++ (strOfNums y372)) t375 t376 _ ?side1 A38.out).mono ?_); (case side1 => repeat (first | exact (Kd.C_below HRT0.out HB.out) | (with_reducible refine Kd.C_alloc ?_ _) | (with_reducible refine Kd.C_drewN ?_ _) | (with_reducible refine Kd.C_drew ?_))); rintro e w44 ⟨v377, rfl, ho0, hb⟩; refine ⟨_, rfl, ?_⟩; have n0_ := Aside0.mk (Kd.R_elder' (by (with_reducible repeat (first | apply Kd.R_alloc | apply Kd.R_drewN | apply Kd.R_drew)); exact HO_8.out) (Kd.R_base ho0) hb); have n1_ := Aside0.mk (Kd.R_elder' (by (with_reducible repeat (first | apply Kd.R_alloc | apply Kd.R_drewN | apply Kd.R_drew)); exact HO371.out) (Kd.R_base ho0) hb); have n2_ := Aside0.mk (Kd.R_below (by (with_reducible repeat (first | apply Kd.R_alloc | apply Kd.R_drewN | apply Kd.R_drew)); exact HO374.out) hb); have n3_ := Aside0.mk (Kd.R_lower (Kd.R_new' (Kd.R_new' ho0 (Kd.R_lt (by (with_reducible repeat (first | apply Kd.R_alloc | apply Kd.R_drewN | apply Kd.R_drew)); exact HO_8.out))) (Kd.R_lt (by (with_reducible repeat (first | apply Kd.R_alloc | apply Kd.R_drewN | apply Kd.R_drew)); exact HO371.out))) (below_size (by repeat (first | (with_reducible first | exact HB.out | apply below_alloc | apply pw_below_drewN | apply below_drew1) | exact HB.out)))); have n4_ := Aside0.mk (below_step (by repeat (first | (with_reducible first | exact HB.out | apply below_alloc | apply pw_below_drewN | apply below_drew1) | exact HB.out)) hb); clear HO_8; clear HO371; clear HO374; clear HB; have HO_8 := n0_; have HO371 := n1_; have HO374 := n2_; have HO378 := n3_; have HB := n4_; clear n0_ n1_ n2_ n3_ n4_; (try clear hb); (try clear hb2); (try clear hk); (try clear hi); (try clear ho0)))
                    (try simp only [Act.put, List.setIfInBounds_toArray, List.set_cons_zero, List.set_cons_succ])
                    go_cut [103] (fun v103 wc => ∃ (kq : Nat) (x103_38 : Bool), v103 = .bool x103_38 ∧ Aside0 (steelyardlaw05_DigitsBack.j2 kq a2 x10_2 x103_38 = some r) ∧ Aside0 (kq ≤ k2) ∧ Aside0 (Below w.heap.size w wc))
                    case first =>
                      have H := HC39.out
                      clear HC39
                      by_cases c45 : t369 = true
                      · subst c45
                        have H1 : (if t376 = true then ((steelyardkeep_Nat.f k2 t368 t360).bind fun t379 => (if t379 = true then ((mul_Small.f k2 l0 10).bind fun t380 => ((nat_Of.f k2 (IntKind.u64.wrap (Int.tmod a1 10))).bind fun t383 => ((nat_Add.f k2 t380 t383).bind fun t386 => ((steelyardkeep_Nat.f k2 t375 t386).bind fun t389 => (steelyardlaw05_DigitsBack.j2 k2 a2 x10_2 (!t389)))))) else (steelyardlaw05_DigitsBack.j2 k2 a2 x10_2 true))) else (steelyardlaw05_DigitsBack.j2 k2 a2 x10_2 true)) = some r := by rw [if_pos rfl] at H; exact H
                        clear H
                        have H := H1
                        clear H1
                        by_cases c46 : t376 = true
                        · subst c46
                          have H1 : ((steelyardkeep_Nat.f k2 t368 t360).bind fun t379 => (if t379 = true then ((mul_Small.f k2 l0 10).bind fun t380 => ((nat_Of.f k2 (IntKind.u64.wrap (Int.tmod a1 10))).bind fun t383 => ((nat_Add.f k2 t380 t383).bind fun t386 => ((steelyardkeep_Nat.f k2 t375 t386).bind fun t389 => (steelyardlaw05_DigitsBack.j2 k2 a2 x10_2 (!t389)))))) else (steelyardlaw05_DigitsBack.j2 k2 a2 x10_2 true))) = some r := by rw [if_pos rfl] at H; exact H
                          clear H
                          have H := H1
                          clear H1
                          replace H := Option.bind_eq_some_iff.mp H
                          obtain ⟨t379, A470, H⟩ := H
                          replace H : (if t379 = true then ((mul_Small.f k2 l0 10).bind fun t380 => ((nat_Of.f k2 (IntKind.u64.wrap (Int.tmod a1 10))).bind fun t383 => ((nat_Add.f k2 t380 t383).bind fun t386 => ((steelyardkeep_Nat.f k2 t375 t386).bind fun t389 => (steelyardlaw05_DigitsBack.j2 k2 a2 x10_2 (!t389)))))) else (steelyardlaw05_DigitsBack.j2 k2 a2 x10_2 true)) = some r := H
                          have A47 := Aside0.mk A470
                          clear A470
                          by_cases c48 : t379 = true
                          · subst c48
                            have H1 : ((mul_Small.f k2 l0 10).bind fun t380 => ((nat_Of.f k2 (IntKind.u64.wrap (Int.tmod a1 10))).bind fun t383 => ((nat_Add.f k2 t380 t383).bind fun t386 => ((steelyardkeep_Nat.f k2 t375 t386).bind fun t389 => (steelyardlaw05_DigitsBack.j2 k2 a2 x10_2 (!t389)))))) = some r := by rw [if_pos rfl] at H; exact H
                            clear H
                            have H := H1
                            clear H1
                            replace H := Option.bind_eq_some_iff.mp H
                            obtain ⟨t380, A490, H⟩ := H
                            replace H : ((nat_Of.f k2 (IntKind.u64.wrap (Int.tmod a1 10))).bind fun t383 => ((nat_Add.f k2 t380 t383).bind fun t386 => ((steelyardkeep_Nat.f k2 t375 t386).bind fun t389 => (steelyardlaw05_DigitsBack.j2 k2 a2 x10_2 (!t389))))) = some r := H
                            have A49 := Aside0.mk A490
                            clear A490
                            replace H := Option.bind_eq_some_iff.mp H
                            obtain ⟨t383, A500, H⟩ := H
                            replace H : ((nat_Add.f k2 t380 t383).bind fun t386 => ((steelyardkeep_Nat.f k2 t375 t386).bind fun t389 => (steelyardlaw05_DigitsBack.j2 k2 a2 x10_2 (!t389)))) = some r := H
                            have A50 := Aside0.mk A500
                            clear A500
                            replace H := Option.bind_eq_some_iff.mp H
                            obtain ⟨t386, A510, H⟩ := H
                            replace H : ((steelyardkeep_Nat.f k2 t375 t386).bind fun t389 => (steelyardlaw05_DigitsBack.j2 k2 a2 x10_2 (!t389))) = some r := H
                            have A51 := Aside0.mk A510
                            clear A510
                            replace H := Option.bind_eq_some_iff.mp H
                            obtain ⟨t389, A520, H⟩ := H
                            replace H : (steelyardlaw05_DigitsBack.j2 k2 a2 x10_2 (!t389)) = some r := H
                            have A52 := Aside0.mk A520
                            clear A520
                            have H' := Aside0.mk H
                            clear H
                            obtain ⟨Ao53, co53, eo53⟩ := Kd.R_slice HO371.out
                            subst eo53
                            obtain ⟨Ao54, co54, eo54⟩ := Kd.R_slice HO_8.out
                            subst eo54
                            go_wp2_with (first | (go_at_call 12; (with_reducible refine (steelyardkeep_Nat.calls k2 _ _ t368 _ _ t360 true _ ?side1 ?side2 ?side3 ?side4 A47.out).mono ?_); (case side1 => repeat (first | exact (Kd.R_reads' HO371.out).2.2 | (with_reducible refine Kd.C_alloc ?_ _) | (with_reducible refine Kd.C_drewN ?_ _) | (with_reducible refine Kd.C_drew ?_))); (case side2 => exact (Kd.R_reads' HO371.out).2.1); (case side3 => repeat (first | exact (Kd.R_reads' HO_8.out).2.2 | (with_reducible refine Kd.C_alloc ?_ _) | (with_reducible refine Kd.C_drewN ?_ _) | (with_reducible refine Kd.C_drew ?_))); (case side4 => exact (Kd.R_reads' HO_8.out).2.1); clear A47; rintro e w' ⟨rfl, ⟨nd, rfl⟩⟩) | (go_at_call 18; (with_reducible refine (mul_Small.calls k2 _ _ l0 10 t380 _ ?side1 ?side2 A49.out).mono ?_); (case side1 => repeat (first | exact (Kd.C_below HR0.out (by repeat (first | (with_reducible first | exact HB.out | apply below_alloc | apply pw_below_drewN | apply below_drew1) | exact HB.out))) | (with_reducible refine Kd.C_alloc ?_ _) | (with_reducible refine Kd.C_drewN ?_ _) | (with_reducible refine Kd.C_drew ?_))); (case side2 => exact HC0.out); clear A49; rintro e w55 ⟨v381, rfl, ho0, hb⟩; have n0_ := Aside0.mk (Kd.R_elder' (by (with_reducible repeat (first | apply Kd.R_alloc | apply Kd.R_drewN | apply Kd.R_drew)); exact HO_8.out) (Kd.R_base ho0) hb); have n1_ := Aside0.mk (Kd.R_elder' (by (with_reducible repeat (first | apply Kd.R_alloc | apply Kd.R_drewN | apply Kd.R_drew)); exact HO371.out) (Kd.R_base ho0) hb); have n2_ := Aside0.mk (Kd.R_below (by (with_reducible repeat (first | apply Kd.R_alloc | apply Kd.R_drewN | apply Kd.R_drew)); exact HO374.out) hb); have n3_ := Aside0.mk (Kd.R_elder' (by (with_reducible repeat (first | apply Kd.R_alloc | apply Kd.R_drewN | apply Kd.R_drew)); exact HO378.out) (Kd.R_base ho0) hb); have n4_ := Aside0.mk (Kd.R_lower (Kd.R_new' (Kd.R_new' (Kd.R_new' ho0 (Kd.R_lt (by (with_reducible repeat (first | apply Kd.R_alloc | apply Kd.R_drewN | apply Kd.R_drew)); exact HO_8.out))) (Kd.R_lt (by (with_reducible repeat (first | apply Kd.R_alloc | apply Kd.R_drewN | apply Kd.R_drew)); exact HO371.out))) (Kd.R_lt (by (with_reducible repeat (first | apply Kd.R_alloc | apply Kd.R_drewN | apply Kd.R_drew)); exact HO378.out))) (below_size (by repeat (first | (with_reducible first | exact HB.out | apply below_alloc | apply pw_below_drewN | apply below_drew1) | exact HB.out)))); have n5_ := Aside0.mk (below_step (by repeat (first | (with_reducible first | exact HB.out | apply below_alloc | apply pw_below_drewN | apply below_drew1) | exact HB.out)) hb); clear HO_8; clear HO371; clear HO374; clear HO378; clear HB; have HO_8 := n0_; have HO371 := n1_; have HO374 := n2_; have HO378 := n3_; have HO382 := n4_; have HB := n5_; clear n0_ n1_ n2_ n3_ n4_ n5_; (try clear hb); (try clear hb2); (try clear hk); (try clear hi); (try clear ho0)) | (go_at_call 19; (with_reducible refine (nat_Of.calls k2 (IntKind.u64.wrap (Int.tmod a1 10)) t383 _ A50.out).mono ?_); clear A50; rintro e w56 ⟨v384, rfl, ho0, hb⟩; have n0_ := Aside0.mk (Kd.R_elder' (by (with_reducible repeat (first | apply Kd.R_alloc | apply Kd.R_drewN | apply Kd.R_drew)); exact HO_8.out) (Kd.R_base ho0) hb); have n1_ := Aside0.mk (Kd.R_elder' (by (with_reducible repeat (first | apply Kd.R_alloc | apply Kd.R_drewN | apply Kd.R_drew)); exact HO371.out) (Kd.R_base ho0) hb); have n2_ := Aside0.mk (Kd.R_below (by (with_reducible repeat (first | apply Kd.R_alloc | apply Kd.R_drewN | apply Kd.R_drew)); exact HO374.out) hb); have n3_ := Aside0.mk (Kd.R_elder' (by (with_reducible repeat (first | apply Kd.R_alloc | apply Kd.R_drewN | apply Kd.R_drew)); exact HO378.out) (Kd.R_base ho0) hb); have n4_ := Aside0.mk (Kd.R_elder' (by (with_reducible repeat (first | apply Kd.R_alloc | apply Kd.R_drewN | apply Kd.R_drew)); exact HO382.out) (Kd.R_base ho0) hb); have n5_ := Aside0.mk (Kd.R_lower (Kd.R_new' (Kd.R_new' (Kd.R_new' (Kd.R_new' ho0 (Kd.R_lt (by (with_reducible repeat (first | apply Kd.R_alloc | apply Kd.R_drewN | apply Kd.R_drew)); exact HO_8.out))) (Kd.R_lt (by (with_reducible repeat (first | apply Kd.R_alloc | apply Kd.R_drewN | apply Kd.R_drew)); exact HO371.out))) (Kd.R_lt (by (with_reducible repeat (first | apply Kd.R_alloc | apply Kd.R_drewN | apply Kd.R_drew)); exact HO378.out))) (Kd.R_lt (by (with_reducible repeat (first | apply Kd.R_alloc | apply Kd.R_drewN | apply Kd.R_drew)); exact HO382.out))) (below_size (by repeat (first | (with_reducible first | exact HB.out | apply below_alloc | apply pw_below_drewN | apply below_drew1) | exact HB.out)))); have n6_ := Aside0.mk (below_step (by repeat (first | (with_reducible first | exact HB.out | apply below_alloc | apply pw_below_drewN | apply below_drew1) | exact HB.out)) hb); clear HO_8; clear HO371; clear HO374; clear HO378; clear HO382; clear HB; have HO_8 := n0_; have HO371 := n1_; have HO374 := n2_; have HO378 := n3_; have HO382 := n4_; have HO385 := n5_; have HB := n6_; clear n0_ n1_ n2_ n3_ n4_ n5_ n6_; (try clear hb); (try clear hb2); (try clear hk); (try clear hi); (try clear ho0); obtain ⟨Ao57, co57, eo57⟩ := Kd.R_slice HO382.out; subst eo57; obtain ⟨Ao58, co58, eo58⟩ := Kd.R_slice HO385.out; subst eo58) | (go_at_call 17; (with_reducible refine (nat_Add.calls k2 _ _ t380 _ _ t383 t386 _ ?side1 ?side2 ?side3 ?side4 A51.out).mono ?_); (case side1 => repeat (first | exact (Kd.R_reads' HO382.out).2.2 | (with_reducible refine Kd.C_alloc ?_ _) | (with_reducible refine Kd.C_drewN ?_ _) | (with_reducible refine Kd.C_drew ?_))); (case side2 => exact (Kd.R_reads' HO382.out).2.1); (case side3 => repeat (first | exact (Kd.R_reads' HO385.out).2.2 | (with_reducible refine Kd.C_alloc ?_ _) | (with_reducible refine Kd.C_drewN ?_ _) | (with_reducible refine Kd.C_drew ?_))); (case side4 => exact (Kd.R_reads' HO385.out).2.1); clear A51; rintro e w59 ⟨v387, rfl, ho0, hb⟩; have n0_ := Aside0.mk (Kd.R_elder' (by (with_reducible repeat (first | apply Kd.R_alloc | apply Kd.R_drewN | apply Kd.R_drew)); exact HO_8.out) (Kd.R_base ho0) hb); have n1_ := Aside0.mk (Kd.R_elder' (by (with_reducible repeat (first | apply Kd.R_alloc | apply Kd.R_drewN | apply Kd.R_drew)); exact HO371.out) (Kd.R_base ho0) hb); have n2_ := Aside0.mk (Kd.R_below (by (with_reducible repeat (first | apply Kd.R_alloc | apply Kd.R_drewN | apply Kd.R_drew)); exact HO374.out) hb); have n3_ := Aside0.mk (Kd.R_elder' (by (with_reducible repeat (first | apply Kd.R_alloc | apply Kd.R_drewN | apply Kd.R_drew)); exact HO378.out) (Kd.R_base ho0) hb); have n4_ := Aside0.mk (Kd.R_elder' (by (with_reducible repeat (first | apply Kd.R_alloc | apply Kd.R_drewN | apply Kd.R_drew)); exact HO382.out) (Kd.R_base ho0) hb); have n5_ := Aside0.mk (Kd.R_elder' (by (with_reducible repeat (first | apply Kd.R_alloc | apply Kd.R_drewN | apply Kd.R_drew)); exact HO385.out) (Kd.R_base ho0) hb); have n6_ := Aside0.mk (Kd.R_lower (Kd.R_new' (Kd.R_new' (Kd.R_new' (Kd.R_new' (Kd.R_new' ho0 (Kd.R_lt (by (with_reducible repeat (first | apply Kd.R_alloc | apply Kd.R_drewN | apply Kd.R_drew)); exact HO_8.out))) (Kd.R_lt (by (with_reducible repeat (first | apply Kd.R_alloc | apply Kd.R_drewN | apply Kd.R_drew)); exact HO371.out))) (Kd.R_lt (by (with_reducible repeat (first | apply Kd.R_alloc | apply Kd.R_drewN | apply Kd.R_drew)); exact HO378.out))) (Kd.R_lt (by (with_reducible repeat (first | apply Kd.R_alloc | apply Kd.R_drewN | apply Kd.R_drew)); exact HO382.out))) (Kd.R_lt (by (with_reducible repeat (first | apply Kd.R_alloc | apply Kd.R_drewN | apply Kd.R_drew)); exact HO385.out))) (below_size (by repeat (first | (with_reducible first | exact HB.out | apply below_alloc | apply pw_below_drewN | apply below_drew1) | exact HB.out)))); have n7_ := Aside0.mk (below_step (by repeat (first | (with_reducible first | exact HB.out | apply below_alloc | apply pw_below_drewN | apply below_drew1) | exact HB.out)) hb); clear HO_8; clear HO371; clear HO374; clear HO378; clear HO382; clear HO385; clear HB; have HO_8 := n0_; have HO371 := n1_; have HO374 := n2_; have HO378 := n3_; have HO382 := n4_; have HO385 := n5_; have HO388 := n6_; have HB := n7_; clear n0_ n1_ n2_ n3_ n4_ n5_ n6_ n7_; (try clear hb); (try clear hb2); (try clear hk); (try clear hi); (try clear ho0); obtain ⟨Ao60, co60, eo60⟩ := Kd.R_slice HO378.out; subst eo60; obtain ⟨Ao61, co61, eo61⟩ := Kd.R_slice HO388.out; subst eo61) | (go_at_call 12; (with_reducible refine (steelyardkeep_Nat.calls k2 _ _ t375 _ _ t386 t389 _ ?side1 ?side2 ?side3 ?side4 A52.out).mono ?_); (case side1 => repeat (first | exact (Kd.R_reads' HO378.out).2.2 | (with_reducible refine Kd.C_alloc ?_ _) | (with_reducible refine Kd.C_drewN ?_ _) | (with_reducible refine Kd.C_drew ?_))); (case side2 => exact (Kd.R_reads' HO378.out).2.1); (case side3 => repeat (first | exact (Kd.R_reads' HO388.out).2.2 | (with_reducible refine Kd.C_alloc ?_ _) | (with_reducible refine Kd.C_drewN ?_ _) | (with_reducible refine Kd.C_drew ?_))); (case side4 => exact (Kd.R_reads' HO388.out).2.1); clear A52; rintro e w' ⟨rfl, ⟨nd, rfl⟩⟩))
                            go_meet
                            case rel => exact ⟨_, (!t389), (by first | rfl | (simp; done) | (simp [*]; done)), H', ⟨by have := HJ8.out; have := HK2.out; first | omega | exact Nat.le_refl _⟩, ⟨by repeat (first | (with_reducible first | exact HB.out | apply below_alloc | apply pw_below_drewN | apply below_drew1) | exact HB.out)⟩⟩
                          · replace c48 := Bool.eq_false_iff.mpr c48
                            subst c48
                            have H1 : (steelyardlaw05_DigitsBack.j2 k2 a2 x10_2 true) = some r := by rw [if_neg (show ¬ (false = true) by decide)] at H; exact H
                            clear H
                            have H := H1
                            clear H1
                            have H' := Aside0.mk H
                            clear H
                            obtain ⟨Ao62, co62, eo62⟩ := Kd.R_slice HO371.out
                            subst eo62
                            obtain ⟨Ao63, co63, eo63⟩ := Kd.R_slice HO_8.out
                            subst eo63
                            go_wp2_with (first | (go_at_call 12; (with_reducible refine (steelyardkeep_Nat.calls k2 _ _ t368 _ _ t360 false _ ?side1 ?side2 ?side3 ?side4 A47.out).mono ?_); (case side1 => repeat (first | exact (Kd.R_reads' HO371.out).2.2 | (with_reducible refine Kd.C_alloc ?_ _) | (with_reducible refine Kd.C_drewN ?_ _) | (with_reducible refine Kd.C_drew ?_))); (case side2 => exact (Kd.R_reads' HO371.out).2.1); (case side3 => repeat (first | exact (Kd.R_reads' HO_8.out).2.2 | (with_reducible refine Kd.C_alloc ?_ _) | (with_reducible refine Kd.C_drewN ?_ _) | (with_reducible refine Kd.C_drew ?_))); (case side4 => exact (Kd.R_reads' HO_8.out).2.1); clear A47; rintro e w' ⟨rfl, ⟨nd, rfl⟩⟩))
                            go_meet
                            case rel => exact ⟨_, (true), (by first | rfl | (simp; done) | (simp [*]; done)), H', ⟨by have := HJ8.out; have := HK2.out; first | omega | exact Nat.le_refl _⟩, ⟨by repeat (first | (with_reducible first | exact HB.out | apply below_alloc | apply pw_below_drewN | apply below_drew1) | exact HB.out)⟩⟩
                        · replace c46 := Bool.eq_false_iff.mpr c46
                          subst c46
                          have H1 : (steelyardlaw05_DigitsBack.j2 k2 a2 x10_2 true) = some r := by rw [if_neg (show ¬ (false = true) by decide)] at H; exact H
                          clear H
                          have H := H1
                          clear H1
                          have H' := Aside0.mk H
                          clear H
                          go_wp2
                          go_meet
                          case rel => exact ⟨_, (true), (by first | rfl | (simp; done) | (simp [*]; done)), H', ⟨by have := HJ8.out; have := HK2.out; first | omega | exact Nat.le_refl _⟩, ⟨by repeat (first | (with_reducible first | exact HB.out | apply below_alloc | apply pw_below_drewN | apply below_drew1) | exact HB.out)⟩⟩
                      · replace c45 := Bool.eq_false_iff.mpr c45
                        subst c45
                        have H1 : (steelyardlaw05_DigitsBack.j2 k2 a2 x10_2 true) = some r := by rw [if_neg (show ¬ (false = true) by decide)] at H; exact H
                        clear H
                        have H := H1
                        clear H1
                        have H' := Aside0.mk H
                        clear H
                        go_wp2
                        go_meet
                        case rel => exact ⟨_, (true), (by first | rfl | (simp; done) | (simp [*]; done)), H', ⟨by have := HJ8.out; have := HK2.out; first | omega | exact Nat.le_refl _⟩, ⟨by repeat (first | (with_reducible first | exact HB.out | apply below_alloc | apply pw_below_drewN | apply below_drew1) | exact HB.out)⟩⟩
                    case rest =>
                      clear HC39
                      try clear c1
                      try clear c2
                      try clear p2
                      try clear q2
                      try clear hx2
                      try clear qi2
                      try clear c3
                      try clear c4
                      try clear c4b0
                      try clear c4b1
                      try clear hcv4
                      try clear p6
                      try clear c7
                      try clear c9
                      try clear c12
                      try clear c14
                      try clear c15
                      try clear c16
                      try clear c16b0
                      try clear c16b1
                      try clear c20
                      try clear c20b0
                      try clear c20b1
                      try clear c21
                      try clear c21b0
                      try clear c21b1
                      try clear p22
                      try clear q22
                      try clear hx22
                      try clear qi22
                      try clear c32
                      try clear c33
                      try clear c33b0
                      try clear c34
                      try clear c34b0
                      try clear c34b1
                      try clear c34b2
                      try clear c35
                      try clear c35b0
                      try clear c35b1
                      try clear c35b2
                      try clear c37
                      try clear c37b0
                      try clear c37b1
                      try clear c37b2
                      try clear hcv43
                      try clear c45
                      try clear c46
                      try clear c48
                      try clear p2
                      try clear p22
                      try clear q2
                      try clear q22
                      obtain ⟨kq, x103_38, rfl, HA, HJ38, HB⟩ := hcut
                      cases kq with
                      | zero => exact absurd HA.out (by simp [steelyardlaw05_DigitsBack.j2])
                      | succ kj38 =>
                        have H := HA.out
                        clear HA
                        simp only [steelyardlaw05_DigitsBack.j2] at H
                        by_cases c64 : x103_38 = true
                        · subst c64
                          have H1 : (none) = some r := by rw [if_pos rfl] at H; exact H
                          clear H
                          have H := H1
                          clear H1
                          exact absurd H (by simp)
                        · replace c64 := Bool.eq_false_iff.mpr c64
                          subst c64
                          have H1 : ((digits_Ten.f kj38 (Int.tmod (wrap64 (a2)) 20)).bind fun bt390 => (if bt390.2 = true then ((digits_Text.f kj38 bt390.1).bind fun t394 => (if 1 + x10_2.size ≤ 9223372036854775807 then (if t394.toList = ((⟨#[49]⟩ : ByteArray) ++ x10_2).toList then ((steelyardlaw05_wakes.f kj38).bind fun t395 => (some t395)) else (none)) else (none))) else (none))) = some r := by rw [if_neg (show ¬ (false = true) by decide)] at H; exact H
                          clear H
                          have H := H1
                          clear H1
                          replace H := Option.bind_eq_some_iff.mp H
                          obtain ⟨⟨t390, t391⟩, A650, H⟩ := H
                          replace H : (if t391 = true then ((digits_Text.f kj38 t390).bind fun t394 => (if 1 + x10_2.size ≤ 9223372036854775807 then (if t394.toList = ((⟨#[49]⟩ : ByteArray) ++ x10_2).toList then ((steelyardlaw05_wakes.f kj38).bind fun t395 => (some t395)) else (none)) else (none))) else (none)) = some r := H
                          have A65 := Aside0.mk A650
                          clear A650
                          by_cases c66 : t391 = true
                          · subst c66
                            have H1 : ((digits_Text.f kj38 t390).bind fun t394 => (if 1 + x10_2.size ≤ 9223372036854775807 then (if t394.toList = ((⟨#[49]⟩ : ByteArray) ++ x10_2).toList then ((steelyardlaw05_wakes.f kj38).bind fun t395 => (some t395)) else (none)) else (none))) = some r := by rw [if_pos rfl] at H; exact H
                            clear H
                            have H := H1
                            clear H1
                            replace H := Option.bind_eq_some_iff.mp H
                            obtain ⟨t394, A670, H⟩ := H
                            replace H : (if 1 + x10_2.size ≤ 9223372036854775807 then (if t394.toList = ((⟨#[49]⟩ : ByteArray) ++ x10_2).toList then ((steelyardlaw05_wakes.f kj38).bind fun t395 => (some t395)) else (none)) else (none)) = some r := H
                            have A67 := Aside0.mk A670
                            clear A670
                            by_cases c68 : 1 + x10_2.size ≤ 9223372036854775807
                            · rw [if_pos c68] at H
                              have c68b0 := eq_true c68
                              have c68b1 : decide (1 + x10_2.size ≤ 9223372036854775807) = true := decide_eq_true c68
                              try have c68b2 : (9223372036854775807 < 1 + x10_2.size) = False := eq_false (Nat.not_lt.2 c68)
                              by_cases c69 : t394.toList = ((⟨#[49]⟩ : ByteArray) ++ x10_2).toList
                              · rw [if_pos c69] at H
                                have c69b0 : (t394.toList == ((⟨#[49]⟩ : ByteArray) ++ x10_2).toList) = true := beq_iff_eq.mpr c69
                                have c69b1 : (t394.toList != ((⟨#[49]⟩ : ByteArray) ++ x10_2).toList) = false := bne_eq_false_iff_eq.mpr c69
                                clear c69
                                replace H := Option.bind_eq_some_iff.mp H
                                obtain ⟨t395, A700, H⟩ := H
                                replace H : (some t395) = some r := H
                                have A70 := Aside0.mk A700
                                clear A700
                                obtain rfl := Option.some.inj H
                                go_wp2_with (first | ((with_reducible refine gate_callee (f := 11) rfl ?_); refine goesL_ (some 108) rfl rfl Tryd.func11 (by kernel_rfl) rfl #[.int .i64 (Int.tmod (wrap64 (a2)) 20)] rfl (by (try simp only [List.map_toArray, List.map_cons, List.map_nil]); first | done | rfl | (simp only [List.length_drop, List.length_take]; rfl)) ?_; (with_reducible refine (digits_Ten.calls kj38 (Int.tmod (wrap64 (a2)) 20) t390 true _ ?side1 A65.out).mono ?_); (case side1 => repeat (first | exact (Kd.C_below HRT0.out HB.out) | (with_reducible refine Kd.C_alloc ?_ _) | (with_reducible refine Kd.C_drewN ?_ _) | (with_reducible refine Kd.C_drew ?_))); rintro e w71 ⟨v392, rfl, ho0, hb⟩; refine ⟨_, rfl, ?_⟩; have n0_ := Aside0.mk (Kd.R_lower ho0 (below_size (by repeat (first | (with_reducible first | exact HB.out | apply below_alloc | apply pw_below_drewN | apply below_drew1) | exact HB.out)))); have n1_ := Aside0.mk (below_step (by repeat (first | (with_reducible first | exact HB.out | apply below_alloc | apply pw_below_drewN | apply below_drew1) | exact HB.out)) hb); clear HB; have HO393 := n0_; have HB := n1_; clear n0_ n1_; (try clear hb); (try clear hb2); (try clear hk); (try clear hi); (try clear ho0); obtain ⟨Ao72, co72, eo72⟩ := Kd.R_slice HO393.out; subst eo72) | (go_at_call 14; (with_reducible refine (digits_Text.calls kj38 _ _ t390 t394 _ ?side1 ?side2 ?side3 A67.out).mono ?_); (case side1 => repeat (first | exact (Kd.R_reads' HO393.out).2.2 | (with_reducible refine Kd.C_alloc ?_ _) | (with_reducible refine Kd.C_drewN ?_ _) | (with_reducible refine Kd.C_drew ?_))); (case side2 => exact (Kd.R_reads' HO393.out).2.1); (case side3 => repeat (first | exact (Kd.C_below HRT0.out HB.out) | (with_reducible refine Kd.C_alloc ?_ _) | (with_reducible refine Kd.C_drewN ?_ _) | (with_reducible refine Kd.C_drew ?_))); clear A67; rintro e w73 ⟨rfl, hb⟩; have n0_ := Aside0.mk (Kd.R_below (by (with_reducible repeat (first | apply Kd.R_alloc | apply Kd.R_drewN | apply Kd.R_drew)); exact HO393.out) hb); have n1_ := Aside0.mk (below_step (by repeat (first | (with_reducible first | exact HB.out | apply below_alloc | apply pw_below_drewN | apply below_drew1) | exact HB.out)) hb); clear HO393; clear HB; have HO393 := n0_; have HB := n1_; clear n0_ n1_; (try clear hb); (try clear hb2); (try clear hk); (try clear hi)) | (go_at_call 7; (with_reducible refine (steelyardlaw05_wakes.calls kj38  t395 _ ?side1 A70.out).mono ?_); (case side1 => repeat (first | exact (Kd.C_below HRT0.out HB.out) | (with_reducible refine Kd.C_alloc ?_ _) | (with_reducible refine Kd.C_drewN ?_ _) | (with_reducible refine Kd.C_drew ?_))); clear A70; rintro e w74 ⟨rfl, hb⟩; have n0_ := Aside0.mk (Kd.R_below (by (with_reducible repeat (first | apply Kd.R_alloc | apply Kd.R_drewN | apply Kd.R_drew)); exact HO393.out) hb); have n1_ := Aside0.mk (below_step (by repeat (first | (with_reducible first | exact HB.out | apply below_alloc | apply pw_below_drewN | apply below_drew1) | exact HB.out)) hb); clear HO393; clear HB; have HO393 := n0_; have HB := n1_; clear n0_ n1_; (try clear hb); (try clear hb2); (try clear hk); (try clear hi)))
                                go_ret
                                exact ⟨by first | rfl | (simp [errW_none, errW_some] <;> rfl) | (simp [*, errW_none, errW_some] <;> rfl), by repeat (first | (with_reducible first | exact HB.out | apply below_alloc | apply pw_below_drewN | apply below_drew1) | exact HB.out)⟩
                              · rw [if_neg c69] at H
                                exact absurd H (by simp)
                            · rw [if_neg c68] at H
                              exact absurd H (by simp)
                          · replace c66 := Bool.eq_false_iff.mpr c66
                            subst c66
                            have H1 : (none) = some r := by rw [if_neg (show ¬ (false = true) by decide)] at H; exact H
                            clear H
                            have H := H1
                            clear H1
                            exact absurd H (by simp)
                  · rw [if_neg c37] at H
                    exact absurd H (by simp)
                · rw [if_neg c35] at H
                  exact absurd H (by simp)
def steelyardlaw05_DigitsBack.Pure : Prop := ∀ (l0 : List Int) (a1 : Int) (a2 : Int), l0.length ≤ maxLen → l0.length * 4 ≤ 140737488351232 → (∀ x ∈ l0, (Lit.int .u32 x).wf = true) → (Lit.int .u8 a1).wf = true → (Lit.int .u8 a2).wf = true → ∃ k, steelyardlaw05_DigitsBack.f k l0 a1 a2 = some true
theorem steelyardlaw05_DigitsBack.walk (P : steelyardlaw05_DigitsBack.Pure) (a0 : Option Addr) (len0 cap0 : Nat) (z0 : List Int) (a1 : Int) (a2 : Int) (w : World) (w0 : (a0 = none ∧ len0 = 0 ∧ cap0 = 0 ∧ z0 = []) ∨ ∃ x, a0 = some x ∧ len0 ≤ cap0 ∧ cap0 ≤ maxLen ∧ z0.length = cap0 ∧ (∀ i, i < z0.length → w.cell? (x.add i) = some (.int .u32 (z0.getD i 0))) ∧ ∀ n ∈ z0, (Lit.int .u32 n).wf = true) (y0 : len0 * 4 ≤ 140737488351232) (w1 : (Lit.int .u8 a1).wf = true) (w2 : (Lit.int .u8 a2).wf = true) (hrT0 : Kd.C (Kd.int .u32) w (some ⟨0, 0, none⟩) tab0_.length tab0_) :
    Calls Tryd.prog 4 #[.slice a0 len0 cap0, .int .u8 a1, .int .u8 a2] w fun e w' => e = .returned (.bool true) ∧ Below w.heap.size w w' := by
  obtain ⟨l0, rfl, hr0, hm0, hw0, hc0⟩ := ReadsInt.ofRowC w0
  obtain ⟨k, h⟩ := P l0 a1 a2 hm0 y0 hw0 w1 w2
  refine (steelyardlaw05_DigitsBack.calls k _ _ l0 a1 a2 true w (Kd.C_of_reads (d := (0 : Int)) (h1 := fun _ => rfl) hr0) hc0 hrT0 h).mono ?_
  rintro e w' ⟨rfl, hd⟩
  exact ⟨rfl, hd⟩

end Go.Proofs.YtijjnjdfdoaafaaDoor.P

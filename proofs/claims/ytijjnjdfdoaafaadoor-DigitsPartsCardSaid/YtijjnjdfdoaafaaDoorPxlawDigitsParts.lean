-- Written by a program of this session (wip/tool), turned from the kit's print. Lean checks it.
import Derived.Test.YtijjnjdfdoaafaaDoorPx0
import Derived.Test.YtijjnjdfdoaafaaDoorPxnat
import Derived.Test.YtijjnjdfdoaafaaDoorPxmul
import Derived.Test.YtijjnjdfdoaafaaDoorPxdigits
import Derived.Test.YtijjnjdfdoaafaaDoorPxsteelyardkeep
import Derived.Test.YtijjnjdfdoaafaaDoorPxsteelyardlaw05
namespace Go.Proofs.YtijjnjdfdoaafaaDoor.P
open Go.RowKit Go.Proofs.YtijjnjdfdoaafaaDoorW.PrintWords Go.Proofs.YtijjnjdfdoaafaaDoorW.PrintLast Go.Proofs.YtijjnjdfdoaafaaDoorW.PrintMore
attribute [local go_sem] max2_int min2_int max_two min_two max_three min_three max_four min_four   -- for this text's walks alone
set_option linter.unusedVariables false
set_option linter.unusedSimpArgs false

/-! ### steelyardlaw05_DigitsParts: function 5 -/
def steelyardlaw05_DigitsParts.j0 : Nat → List Int → List Int → Bool → Option (Bool)
  | 0, _, _, _ => none
  | k + 1, x0, x1, x22 => if x22 = true then ((steelyardlaw05_wakes.f k).bind fun t396 => (some t396)) else ((digits_Text.f k x0).bind fun t397 => ((digits_Text.f k x1).bind fun t398 => (if t397.size + t398.size ≤ 9223372036854775807 then ((digits_Parse.f k (t397 ++ t398)).bind fun bt399 => ((digits_Ten.f k (t398.size : Int)).bind fun bt403 => (if t397.size + 1 ≤ 9223372036854775807 then (if (t397 ++ (⟨#[46]⟩ : ByteArray)).size + t398.size ≤ 9223372036854775807 then ((digits_Parse.f k ((t397 ++ (⟨#[46]⟩ : ByteArray)) ++ t398)).bind fun bt407 => (if 1 + t397.size ≤ 9223372036854775807 then ((digits_Parse.f k ((⟨#[45]⟩ : ByteArray) ++ t397)).bind fun bt411 => (if bt399.2 = true then (if bt403.2 = true then (if bt407.2 = true then (none) else (if bt411.2 = true then (none) else ((mul_Of.f k x0 bt403.1).bind fun t415 => ((nat_Add.f k t415 x1).bind fun t418 => ((steelyardkeep_Nat.f k bt399.1 t418).bind fun t421 => (if t421 = true then ((steelyardlaw05_wakes.f k).bind fun t422 => (some t422)) else (none))))))) else (none)) else (none))) else (none))) else (none)) else (none)))) else (none))))
def steelyardlaw05_DigitsParts.f (k : Nat) (l0 : List Int) (l1 : List Int) : Option (Bool) := if (l0.length : Int) > 30 then (steelyardlaw05_DigitsParts.j0 k l0 l1 true) else (steelyardlaw05_DigitsParts.j0 k l0 l1 (decide ((l1.length : Int) > 30)))
theorem steelyardlaw05_DigitsParts.mono_l : ∀ k, (∀ y0 y1 y2, LeO (steelyardlaw05_DigitsParts.j0 k y0 y1 y2) (steelyardlaw05_DigitsParts.j0 (k + 1) y0 y1 y2))
  | 0 => fun _ _ _ r h => by simp [steelyardlaw05_DigitsParts.j0] at h
  | k + 1 => by
    have ih0 := steelyardlaw05_DigitsParts.mono_l k
    · intro y0 y1 y2
      unfold steelyardlaw05_DigitsParts.j0
      repeat' first
      | (with_reducible exact ih0 _ _ _)
      | (with_reducible exact digits_Parse.mono _ _)
      | (with_reducible exact digits_Ten.mono _ _)
      | (with_reducible exact digits_Text.mono _ _)
      | (with_reducible exact mul_Of.mono _ _ _)
      | (with_reducible exact nat_Add.mono _ _ _)
      | (with_reducible exact steelyardkeep_Nat.mono _ _ _)
      | (with_reducible exact steelyardlaw05_wakes.mono _)
      | (with_reducible exact LeO.refl _)
      | (with_reducible exact LeO.none _)
      | (with_reducible refine LeO.ite ?_ ?_)
      | (with_reducible refine LeO.bind ?_ (fun _ => ?_))
      | exact ih0 _ _ _
      | exact digits_Parse.mono _ _
      | exact digits_Ten.mono _ _
      | exact digits_Text.mono _ _
      | exact mul_Of.mono _ _ _
      | exact nat_Add.mono _ _ _
      | exact steelyardkeep_Nat.mono _ _ _
      | exact steelyardlaw05_wakes.mono _
      | exact LeO.none _
      | refine LeO.ite ?_ ?_
      | refine LeO.bind ?_ (fun _ => ?_)
theorem steelyardlaw05_DigitsParts.mono : ∀ a0 a1 k, LeO (steelyardlaw05_DigitsParts.f k a0 a1) (steelyardlaw05_DigitsParts.f (k + 1) a0 a1) := by
  intro a0 a1 k
  have ih0 := steelyardlaw05_DigitsParts.mono_l k
  unfold steelyardlaw05_DigitsParts.f
  repeat' first
      | (with_reducible exact ih0 _ _ _)
      | (with_reducible exact digits_Parse.mono _ _)
      | (with_reducible exact digits_Ten.mono _ _)
      | (with_reducible exact digits_Text.mono _ _)
      | (with_reducible exact mul_Of.mono _ _ _)
      | (with_reducible exact nat_Add.mono _ _ _)
      | (with_reducible exact steelyardkeep_Nat.mono _ _ _)
      | (with_reducible exact steelyardlaw05_wakes.mono _)
      | (with_reducible exact LeO.refl _)
      | (with_reducible exact LeO.none _)
      | (with_reducible refine LeO.ite ?_ ?_)
      | (with_reducible refine LeO.bind ?_ (fun _ => ?_))
      | exact ih0 _ _ _
      | exact digits_Parse.mono _ _
      | exact digits_Ten.mono _ _
      | exact digits_Text.mono _ _
      | exact mul_Of.mono _ _ _
      | exact nat_Add.mono _ _ _
      | exact steelyardkeep_Nat.mono _ _ _
      | exact steelyardlaw05_wakes.mono _
      | exact LeO.none _
      | refine LeO.ite ?_ ?_
      | refine LeO.bind ?_ (fun _ => ?_)
set_option maxHeartbeats 8000000 in
set_option maxRecDepth 100000 in
theorem steelyardlaw05_DigitsParts.calls (k : Nat) (A0 : Option Addr) (c0 : Nat) (l0 : List Int) (A1 : Option Addr) (c1 : Nat) (l1 : List Int) (r : Bool) (w : World) (hr0 : Kd.C (Kd.int .u32) w A0 l0.length l0) (hc0 : l0.length ≤ c0) (hr1 : Kd.C (Kd.int .u32) w A1 l1.length l1) (hc1 : l1.length ≤ c1) (hrT0 : Kd.C (Kd.int .u32) w (some ⟨0, 0, none⟩) tab0_.length tab0_) (h : steelyardlaw05_DigitsParts.f k l0 l1 = some r) :
    Calls Tryd.prog 5 #[.slice A0 l0.length c0, .slice A1 l1.length c1] w fun e w' => e = .returned (.bool r) ∧ Below w.heap.size w w' := by
  have HR0 := Aside0.mk hr0
  have HC0 := Aside0.mk hc0
  clear hr0 hc0
  have HR1 := Aside0.mk hr1
  have HC1 := Aside0.mk hc1
  clear hr1 hc1
  have HRT0 := Aside0.mk hrT0
  clear hrT0
  have HB := Aside0.mk (Below.refl w.heap.size w)
  have H : (if (l0.length : Int) > 30 then (steelyardlaw05_DigitsParts.j0 k l0 l1 true) else (steelyardlaw05_DigitsParts.j0 k l0 l1 (decide ((l1.length : Int) > 30)))) = some r := h
  clear h
  have HC3 := Aside0.mk H
  clear H
  go_enter Tryd.func5, Tryd.ntmps5
  go_upto_region 1 with (fail)
  go_cut [22] (fun v22 wc => ∃ (kq : Nat) (x22_2 : Bool), v22 = .bool x22_2 ∧ Aside0 (steelyardlaw05_DigitsParts.j0 kq l0 l1 x22_2 = some r) ∧ Aside0 (kq ≤ k) ∧ Aside0 (Below w.heap.size w wc))
  case first =>
    have H := HC3.out
    clear HC3
    by_cases c4 : (l0.length : Int) > 30
    · rw [if_pos c4] at H
      have c4b0 : decide (30 < (l0.length : Int)) = true := decide_eq_true c4
      have c4b1 : decide (30 < l0.length) = true := decide_eq_true (by omega)
      clear c4
      (first | rw [c4b0] | rw [c4b1] | (simp only [i64_w, i32_w]; rw [c4b0]) | skip)
      have H' := Aside0.mk H
      clear H
      go_wp2
      go_meet
      case rel => exact ⟨_, (true), (by first | rfl | (simp; done) | (simp [*]; done)), H', ⟨by first | omega | exact Nat.le_refl _⟩, ⟨by repeat (first | (with_reducible first | exact HB.out | apply below_alloc | apply pw_below_drewN | apply below_drew1) | exact HB.out)⟩⟩
    · rw [if_neg c4] at H
      have c4b0 : decide (30 < (l0.length : Int)) = false := decide_eq_false c4
      have c4b1 : decide (30 < l0.length) = false := decide_eq_false (by omega)
      clear c4
      (first | rw [c4b0] | rw [c4b1] | (simp only [i64_w, i32_w]; rw [c4b0]) | skip)
      have H' := Aside0.mk H
      clear H
      go_wp2
      go_meet
      case rel => exact ⟨_, (decide ((l1.length : Int) > 30)), (by first | rfl | (simp; done) | (simp [*]; done)), H', ⟨by first | omega | exact Nat.le_refl _⟩, ⟨by repeat (first | (with_reducible first | exact HB.out | apply below_alloc | apply pw_below_drewN | apply below_drew1) | exact HB.out)⟩⟩
  case rest =>
    clear HC3
    try clear c1
    try clear p2
    try clear c4
    try clear c4b0
    try clear c4b1
    obtain ⟨kq, x22_2, rfl, HA, HJ2, HB⟩ := hcut
    cases kq with
    | zero => exact absurd HA.out (by simp [steelyardlaw05_DigitsParts.j0])
    | succ kj2 =>
      have H := HA.out
      clear HA
      simp only [steelyardlaw05_DigitsParts.j0] at H
      by_cases c5 : x22_2 = true
      · subst c5
        have H1 : ((steelyardlaw05_wakes.f kj2).bind fun t396 => (some t396)) = some r := by rw [if_pos rfl] at H; exact H
        clear H
        have H := H1
        clear H1
        replace H := Option.bind_eq_some_iff.mp H
        obtain ⟨t396, A60, H⟩ := H
        replace H : (some t396) = some r := H
        have A6 := Aside0.mk A60
        clear A60
        obtain rfl := Option.some.inj H
        go_wp2_with (first | ((with_reducible refine gate_callee (f := 7) rfl ?_); refine goesL_ (some 23) rfl rfl Tryd.func7 (by kernel_rfl) rfl #[] rfl (by (try simp only [List.map_toArray, List.map_cons, List.map_nil]); first | done | rfl | (simp only [List.length_drop, List.length_take]; rfl)) ?_; (with_reducible refine (steelyardlaw05_wakes.calls kj2  t396 _ ?side1 A6.out).mono ?_); (case side1 => repeat (first | exact (Kd.C_below HRT0.out HB.out) | (with_reducible refine Kd.C_alloc ?_ _) | (with_reducible refine Kd.C_drewN ?_ _) | (with_reducible refine Kd.C_drew ?_))); rintro e w7 ⟨rfl, hb⟩; refine ⟨_, rfl, ?_⟩; have n0_ := Aside0.mk (below_step (by repeat (first | (with_reducible first | exact HB.out | apply below_alloc | apply pw_below_drewN | apply below_drew1) | exact HB.out)) hb); clear HB; have HB := n0_; clear n0_; (try clear hb); (try clear hb2); (try clear hk); (try clear hi)))
        go_ret
        exact ⟨by first | rfl | (simp [errW_none, errW_some] <;> rfl) | (simp [*, errW_none, errW_some] <;> rfl), by repeat (first | (with_reducible first | exact HB.out | apply below_alloc | apply pw_below_drewN | apply below_drew1) | exact HB.out)⟩
      · replace c5 := Bool.eq_false_iff.mpr c5
        subst c5
        have H1 : ((digits_Text.f kj2 l0).bind fun t397 => ((digits_Text.f kj2 l1).bind fun t398 => (if t397.size + t398.size ≤ 9223372036854775807 then ((digits_Parse.f kj2 (t397 ++ t398)).bind fun bt399 => ((digits_Ten.f kj2 (t398.size : Int)).bind fun bt403 => (if t397.size + 1 ≤ 9223372036854775807 then (if (t397 ++ (⟨#[46]⟩ : ByteArray)).size + t398.size ≤ 9223372036854775807 then ((digits_Parse.f kj2 ((t397 ++ (⟨#[46]⟩ : ByteArray)) ++ t398)).bind fun bt407 => (if 1 + t397.size ≤ 9223372036854775807 then ((digits_Parse.f kj2 ((⟨#[45]⟩ : ByteArray) ++ t397)).bind fun bt411 => (if bt399.2 = true then (if bt403.2 = true then (if bt407.2 = true then (none) else (if bt411.2 = true then (none) else ((mul_Of.f kj2 l0 bt403.1).bind fun t415 => ((nat_Add.f kj2 t415 l1).bind fun t418 => ((steelyardkeep_Nat.f kj2 bt399.1 t418).bind fun t421 => (if t421 = true then ((steelyardlaw05_wakes.f kj2).bind fun t422 => (some t422)) else (none))))))) else (none)) else (none))) else (none))) else (none)) else (none)))) else (none)))) = some r := by rw [if_neg (show ¬ (false = true) by decide)] at H; exact H
        clear H
        have H := H1
        clear H1
        replace H := Option.bind_eq_some_iff.mp H
        obtain ⟨t397, A80, H⟩ := H
        replace H : ((digits_Text.f kj2 l1).bind fun t398 => (if t397.size + t398.size ≤ 9223372036854775807 then ((digits_Parse.f kj2 (t397 ++ t398)).bind fun bt399 => ((digits_Ten.f kj2 (t398.size : Int)).bind fun bt403 => (if t397.size + 1 ≤ 9223372036854775807 then (if (t397 ++ (⟨#[46]⟩ : ByteArray)).size + t398.size ≤ 9223372036854775807 then ((digits_Parse.f kj2 ((t397 ++ (⟨#[46]⟩ : ByteArray)) ++ t398)).bind fun bt407 => (if 1 + t397.size ≤ 9223372036854775807 then ((digits_Parse.f kj2 ((⟨#[45]⟩ : ByteArray) ++ t397)).bind fun bt411 => (if bt399.2 = true then (if bt403.2 = true then (if bt407.2 = true then (none) else (if bt411.2 = true then (none) else ((mul_Of.f kj2 l0 bt403.1).bind fun t415 => ((nat_Add.f kj2 t415 l1).bind fun t418 => ((steelyardkeep_Nat.f kj2 bt399.1 t418).bind fun t421 => (if t421 = true then ((steelyardlaw05_wakes.f kj2).bind fun t422 => (some t422)) else (none))))))) else (none)) else (none))) else (none))) else (none)) else (none)))) else (none))) = some r := H
        have A8 := Aside0.mk A80
        clear A80
        replace H := Option.bind_eq_some_iff.mp H
        obtain ⟨t398, A90, H⟩ := H
        replace H : (if t397.size + t398.size ≤ 9223372036854775807 then ((digits_Parse.f kj2 (t397 ++ t398)).bind fun bt399 => ((digits_Ten.f kj2 (t398.size : Int)).bind fun bt403 => (if t397.size + 1 ≤ 9223372036854775807 then (if (t397 ++ (⟨#[46]⟩ : ByteArray)).size + t398.size ≤ 9223372036854775807 then ((digits_Parse.f kj2 ((t397 ++ (⟨#[46]⟩ : ByteArray)) ++ t398)).bind fun bt407 => (if 1 + t397.size ≤ 9223372036854775807 then ((digits_Parse.f kj2 ((⟨#[45]⟩ : ByteArray) ++ t397)).bind fun bt411 => (if bt399.2 = true then (if bt403.2 = true then (if bt407.2 = true then (none) else (if bt411.2 = true then (none) else ((mul_Of.f kj2 l0 bt403.1).bind fun t415 => ((nat_Add.f kj2 t415 l1).bind fun t418 => ((steelyardkeep_Nat.f kj2 bt399.1 t418).bind fun t421 => (if t421 = true then ((steelyardlaw05_wakes.f kj2).bind fun t422 => (some t422)) else (none))))))) else (none)) else (none))) else (none))) else (none)) else (none)))) else (none)) = some r := H
        have A9 := Aside0.mk A90
        clear A90
        by_cases c10 : t397.size + t398.size ≤ 9223372036854775807
        · rw [if_pos c10] at H
          have c10b0 := eq_true c10
          have c10b1 : decide (t397.size + t398.size ≤ 9223372036854775807) = true := decide_eq_true c10
          try have c10b2 : (9223372036854775807 < t397.size + t398.size) = False := eq_false (Nat.not_lt.2 c10)
          replace H := Option.bind_eq_some_iff.mp H
          obtain ⟨⟨t399, t400⟩, A110, H⟩ := H
          replace H : ((digits_Ten.f kj2 (t398.size : Int)).bind fun bt403 => (if t397.size + 1 ≤ 9223372036854775807 then (if (t397 ++ (⟨#[46]⟩ : ByteArray)).size + t398.size ≤ 9223372036854775807 then ((digits_Parse.f kj2 ((t397 ++ (⟨#[46]⟩ : ByteArray)) ++ t398)).bind fun bt407 => (if 1 + t397.size ≤ 9223372036854775807 then ((digits_Parse.f kj2 ((⟨#[45]⟩ : ByteArray) ++ t397)).bind fun bt411 => (if t400 = true then (if bt403.2 = true then (if bt407.2 = true then (none) else (if bt411.2 = true then (none) else ((mul_Of.f kj2 l0 bt403.1).bind fun t415 => ((nat_Add.f kj2 t415 l1).bind fun t418 => ((steelyardkeep_Nat.f kj2 t399 t418).bind fun t421 => (if t421 = true then ((steelyardlaw05_wakes.f kj2).bind fun t422 => (some t422)) else (none))))))) else (none)) else (none))) else (none))) else (none)) else (none))) = some r := H
          have A11 := Aside0.mk A110
          clear A110
          replace H := Option.bind_eq_some_iff.mp H
          obtain ⟨⟨t403, t404⟩, A120, H⟩ := H
          replace H : (if t397.size + 1 ≤ 9223372036854775807 then (if (t397 ++ (⟨#[46]⟩ : ByteArray)).size + t398.size ≤ 9223372036854775807 then ((digits_Parse.f kj2 ((t397 ++ (⟨#[46]⟩ : ByteArray)) ++ t398)).bind fun bt407 => (if 1 + t397.size ≤ 9223372036854775807 then ((digits_Parse.f kj2 ((⟨#[45]⟩ : ByteArray) ++ t397)).bind fun bt411 => (if t400 = true then (if t404 = true then (if bt407.2 = true then (none) else (if bt411.2 = true then (none) else ((mul_Of.f kj2 l0 t403).bind fun t415 => ((nat_Add.f kj2 t415 l1).bind fun t418 => ((steelyardkeep_Nat.f kj2 t399 t418).bind fun t421 => (if t421 = true then ((steelyardlaw05_wakes.f kj2).bind fun t422 => (some t422)) else (none))))))) else (none)) else (none))) else (none))) else (none)) else (none)) = some r := H
          have A12 := Aside0.mk A120
          clear A120
          by_cases c13 : t397.size + 1 ≤ 9223372036854775807
          · rw [if_pos c13] at H
            have c13b0 := eq_true c13
            have c13b1 : decide (t397.size + 1 ≤ 9223372036854775807) = true := decide_eq_true c13
            try have c13b2 : (9223372036854775807 < t397.size + 1) = False := eq_false (Nat.not_lt.2 c13)
            by_cases c14 : (t397 ++ (⟨#[46]⟩ : ByteArray)).size + t398.size ≤ 9223372036854775807
            · rw [if_pos c14] at H
              have c14b0 := eq_true c14
              have c14b1 : decide ((t397 ++ (⟨#[46]⟩ : ByteArray)).size + t398.size ≤ 9223372036854775807) = true := decide_eq_true c14
              try have c14b2 : (9223372036854775807 < (t397 ++ (⟨#[46]⟩ : ByteArray)).size + t398.size) = False := eq_false (Nat.not_lt.2 c14)
              replace H := Option.bind_eq_some_iff.mp H
              obtain ⟨⟨t407, t408⟩, A150, H⟩ := H
              replace H : (if 1 + t397.size ≤ 9223372036854775807 then ((digits_Parse.f kj2 ((⟨#[45]⟩ : ByteArray) ++ t397)).bind fun bt411 => (if t400 = true then (if t404 = true then (if t408 = true then (none) else (if bt411.2 = true then (none) else ((mul_Of.f kj2 l0 t403).bind fun t415 => ((nat_Add.f kj2 t415 l1).bind fun t418 => ((steelyardkeep_Nat.f kj2 t399 t418).bind fun t421 => (if t421 = true then ((steelyardlaw05_wakes.f kj2).bind fun t422 => (some t422)) else (none))))))) else (none)) else (none))) else (none)) = some r := H
              have A15 := Aside0.mk A150
              clear A150
              by_cases c16 : 1 + t397.size ≤ 9223372036854775807
              · rw [if_pos c16] at H
                have c16b0 := eq_true c16
                have c16b1 : decide (1 + t397.size ≤ 9223372036854775807) = true := decide_eq_true c16
                try have c16b2 : (9223372036854775807 < 1 + t397.size) = False := eq_false (Nat.not_lt.2 c16)
                replace H := Option.bind_eq_some_iff.mp H
                obtain ⟨⟨t411, t412⟩, A170, H⟩ := H
                replace H : (if t400 = true then (if t404 = true then (if t408 = true then (none) else (if t412 = true then (none) else ((mul_Of.f kj2 l0 t403).bind fun t415 => ((nat_Add.f kj2 t415 l1).bind fun t418 => ((steelyardkeep_Nat.f kj2 t399 t418).bind fun t421 => (if t421 = true then ((steelyardlaw05_wakes.f kj2).bind fun t422 => (some t422)) else (none))))))) else (none)) else (none)) = some r := H
                have A17 := Aside0.mk A170
                clear A170
                by_cases c18 : t400 = true
                · subst c18
                  have H1 : (if t404 = true then (if t408 = true then (none) else (if t412 = true then (none) else ((mul_Of.f kj2 l0 t403).bind fun t415 => ((nat_Add.f kj2 t415 l1).bind fun t418 => ((steelyardkeep_Nat.f kj2 t399 t418).bind fun t421 => (if t421 = true then ((steelyardlaw05_wakes.f kj2).bind fun t422 => (some t422)) else (none))))))) else (none)) = some r := by rw [if_pos rfl] at H; exact H
                  clear H
                  have H := H1
                  clear H1
                  by_cases c19 : t404 = true
                  · subst c19
                    have H1 : (if t408 = true then (none) else (if t412 = true then (none) else ((mul_Of.f kj2 l0 t403).bind fun t415 => ((nat_Add.f kj2 t415 l1).bind fun t418 => ((steelyardkeep_Nat.f kj2 t399 t418).bind fun t421 => (if t421 = true then ((steelyardlaw05_wakes.f kj2).bind fun t422 => (some t422)) else (none))))))) = some r := by rw [if_pos rfl] at H; exact H
                    clear H
                    have H := H1
                    clear H1
                    by_cases c20 : t408 = true
                    · subst c20
                      have H1 : (none) = some r := by rw [if_pos rfl] at H; exact H
                      clear H
                      have H := H1
                      clear H1
                      exact absurd H (by simp)
                    · replace c20 := Bool.eq_false_iff.mpr c20
                      subst c20
                      have H1 : (if t412 = true then (none) else ((mul_Of.f kj2 l0 t403).bind fun t415 => ((nat_Add.f kj2 t415 l1).bind fun t418 => ((steelyardkeep_Nat.f kj2 t399 t418).bind fun t421 => (if t421 = true then ((steelyardlaw05_wakes.f kj2).bind fun t422 => (some t422)) else (none)))))) = some r := by rw [if_neg (show ¬ (false = true) by decide)] at H; exact H
                      clear H
                      have H := H1
                      clear H1
                      by_cases c21 : t412 = true
                      · subst c21
                        have H1 : (none) = some r := by rw [if_pos rfl] at H; exact H
                        clear H
                        have H := H1
                        clear H1
                        exact absurd H (by simp)
                      · replace c21 := Bool.eq_false_iff.mpr c21
                        subst c21
                        have H1 : ((mul_Of.f kj2 l0 t403).bind fun t415 => ((nat_Add.f kj2 t415 l1).bind fun t418 => ((steelyardkeep_Nat.f kj2 t399 t418).bind fun t421 => (if t421 = true then ((steelyardlaw05_wakes.f kj2).bind fun t422 => (some t422)) else (none))))) = some r := by rw [if_neg (show ¬ (false = true) by decide)] at H; exact H
                        clear H
                        have H := H1
                        clear H1
                        replace H := Option.bind_eq_some_iff.mp H
                        obtain ⟨t415, A220, H⟩ := H
                        replace H : ((nat_Add.f kj2 t415 l1).bind fun t418 => ((steelyardkeep_Nat.f kj2 t399 t418).bind fun t421 => (if t421 = true then ((steelyardlaw05_wakes.f kj2).bind fun t422 => (some t422)) else (none)))) = some r := H
                        have A22 := Aside0.mk A220
                        clear A220
                        replace H := Option.bind_eq_some_iff.mp H
                        obtain ⟨t418, A230, H⟩ := H
                        replace H : ((steelyardkeep_Nat.f kj2 t399 t418).bind fun t421 => (if t421 = true then ((steelyardlaw05_wakes.f kj2).bind fun t422 => (some t422)) else (none))) = some r := H
                        have A23 := Aside0.mk A230
                        clear A230
                        replace H := Option.bind_eq_some_iff.mp H
                        obtain ⟨t421, A240, H⟩ := H
                        replace H : (if t421 = true then ((steelyardlaw05_wakes.f kj2).bind fun t422 => (some t422)) else (none)) = some r := H
                        have A24 := Aside0.mk A240
                        clear A240
                        by_cases c25 : t421 = true
                        · subst c25
                          have H1 : ((steelyardlaw05_wakes.f kj2).bind fun t422 => (some t422)) = some r := by rw [if_pos rfl] at H; exact H
                          clear H
                          have H := H1
                          clear H1
                          replace H := Option.bind_eq_some_iff.mp H
                          obtain ⟨t422, A260, H⟩ := H
                          replace H : (some t422) = some r := H
                          have A26 := Aside0.mk A260
                          clear A260
                          obtain rfl := Option.some.inj H
                          go_wp2_with (first | ((with_reducible refine gate_callee (f := 14) rfl ?_); refine goesL_ (some 25) rfl rfl Tryd.func14 (by kernel_rfl) rfl #[.slice A0 l0.length c0] rfl (by (try simp only [List.map_toArray, List.map_cons, List.map_nil]); first | done | rfl | (simp only [List.length_drop, List.length_take]; rfl)) ?_; (with_reducible refine (digits_Text.calls kj2 _ _ l0 t397 _ ?side1 ?side2 ?side3 A8.out).mono ?_); (case side1 => repeat (first | exact (Kd.C_below HR0.out HB.out) | (with_reducible refine Kd.C_alloc ?_ _) | (with_reducible refine Kd.C_drewN ?_ _) | (with_reducible refine Kd.C_drew ?_))); (case side2 => exact HC0.out); (case side3 => repeat (first | exact (Kd.C_below HRT0.out HB.out) | (with_reducible refine Kd.C_alloc ?_ _) | (with_reducible refine Kd.C_drewN ?_ _) | (with_reducible refine Kd.C_drew ?_))); rintro e w27 ⟨rfl, hb⟩; refine ⟨_, rfl, ?_⟩; have n0_ := Aside0.mk (below_step (by repeat (first | (with_reducible first | exact HB.out | apply below_alloc | apply pw_below_drewN | apply below_drew1) | exact HB.out)) hb); clear HB; have HB := n0_; clear n0_; (try clear hb); (try clear hb2); (try clear hk); (try clear hi)) | ((with_reducible refine gate_callee (f := 14) rfl ?_); refine goesL_ (some 27) rfl rfl Tryd.func14 (by kernel_rfl) rfl #[.slice A1 l1.length c1] rfl (by (try simp only [List.map_toArray, List.map_cons, List.map_nil]); first | done | rfl | (simp only [List.length_drop, List.length_take]; rfl)) ?_; (with_reducible refine (digits_Text.calls kj2 _ _ l1 t398 _ ?side1 ?side2 ?side3 A9.out).mono ?_); (case side1 => repeat (first | exact (Kd.C_below HR1.out HB.out) | (with_reducible refine Kd.C_alloc ?_ _) | (with_reducible refine Kd.C_drewN ?_ _) | (with_reducible refine Kd.C_drew ?_))); (case side2 => exact HC1.out); (case side3 => repeat (first | exact (Kd.C_below HRT0.out HB.out) | (with_reducible refine Kd.C_alloc ?_ _) | (with_reducible refine Kd.C_drewN ?_ _) | (with_reducible refine Kd.C_drew ?_))); rintro e w28 ⟨rfl, hb⟩; refine ⟨_, rfl, ?_⟩; have n0_ := Aside0.mk (below_step (by repeat (first | (with_reducible first | exact HB.out | apply below_alloc | apply pw_below_drewN | apply below_drew1) | exact HB.out)) hb); clear HB; have HB := n0_; clear n0_; (try clear hb); (try clear hb2); (try clear hk); (try clear hi)) | ((with_reducible refine gate_callee (f := 9) rfl ?_); refine goesL_ (some 32) rfl rfl Tryd.func9 (by kernel_rfl) rfl #[.string (t397 ++ t398)] rfl (by (try simp only [List.map_toArray, List.map_cons, List.map_nil]); first | done | rfl | (simp only [List.length_drop, List.length_take]; rfl)) ?_; (with_reducible refine (digits_Parse.calls kj2 (t397 ++ t398) t399 true _ ?side1 A11.out).mono ?_); (case side1 => repeat (first | exact (Kd.C_below HRT0.out HB.out) | (with_reducible refine Kd.C_alloc ?_ _) | (with_reducible refine Kd.C_drewN ?_ _) | (with_reducible refine Kd.C_drew ?_))); rintro e w29 ⟨v401, rfl, ho0, hb⟩; refine ⟨_, rfl, ?_⟩; have n0_ := Aside0.mk (Kd.R_lower ho0 (below_size (by repeat (first | (with_reducible first | exact HB.out | apply below_alloc | apply pw_below_drewN | apply below_drew1) | exact HB.out)))); have n1_ := Aside0.mk (below_step (by repeat (first | (with_reducible first | exact HB.out | apply below_alloc | apply pw_below_drewN | apply below_drew1) | exact HB.out)) hb); clear HB; have HO402 := n0_; have HB := n1_; clear n0_ n1_; (try clear hb); (try clear hb2); (try clear hk); (try clear hi); (try clear ho0)) | ((with_reducible refine gate_callee (f := 11) rfl ?_); refine goesL_ (some 38) rfl rfl Tryd.func11 (by kernel_rfl) rfl #[.int .i64 (t398.size : Int)] rfl (by (try simp only [List.map_toArray, List.map_cons, List.map_nil]); first | done | rfl | (simp only [List.length_drop, List.length_take]; rfl)) ?_; (with_reducible refine (digits_Ten.calls kj2 (t398.size : Int) t403 true _ ?side1 A12.out).mono ?_); (case side1 => repeat (first | exact (Kd.C_below HRT0.out HB.out) | (with_reducible refine Kd.C_alloc ?_ _) | (with_reducible refine Kd.C_drewN ?_ _) | (with_reducible refine Kd.C_drew ?_))); rintro e w30 ⟨v405, rfl, ho0, hb⟩; refine ⟨_, rfl, ?_⟩; have n0_ := Aside0.mk (Kd.R_elder' (by (with_reducible repeat (first | apply Kd.R_alloc | apply Kd.R_drewN | apply Kd.R_drew)); exact HO402.out) (Kd.R_base ho0) hb); have n1_ := Aside0.mk (Kd.R_lower (Kd.R_new' ho0 (Kd.R_lt (by (with_reducible repeat (first | apply Kd.R_alloc | apply Kd.R_drewN | apply Kd.R_drew)); exact HO402.out))) (below_size (by repeat (first | (with_reducible first | exact HB.out | apply below_alloc | apply pw_below_drewN | apply below_drew1) | exact HB.out)))); have n2_ := Aside0.mk (below_step (by repeat (first | (with_reducible first | exact HB.out | apply below_alloc | apply pw_below_drewN | apply below_drew1) | exact HB.out)) hb); clear HO402; clear HB; have HO402 := n0_; have HO406 := n1_; have HB := n2_; clear n0_ n1_ n2_; (try clear hb); (try clear hb2); (try clear hk); (try clear hi); (try clear ho0)) | ((with_reducible refine gate_callee (f := 9) rfl ?_); refine goesL_ (some 46) rfl rfl Tryd.func9 (by kernel_rfl) rfl #[.string ((t397 ++ (⟨#[46]⟩ : ByteArray)) ++ t398)] rfl (by (try simp only [List.map_toArray, List.map_cons, List.map_nil]); first | done | rfl | (simp only [List.length_drop, List.length_take]; rfl)) ?_; (with_reducible refine (digits_Parse.calls kj2 ((t397 ++ (⟨#[46]⟩ : ByteArray)) ++ t398) t407 false _ ?side1 A15.out).mono ?_); (case side1 => repeat (first | exact (Kd.C_below HRT0.out HB.out) | (with_reducible refine Kd.C_alloc ?_ _) | (with_reducible refine Kd.C_drewN ?_ _) | (with_reducible refine Kd.C_drew ?_))); rintro e w31 ⟨v409, rfl, ho0, hb⟩; refine ⟨_, rfl, ?_⟩; have n0_ := Aside0.mk (Kd.R_elder' (by (with_reducible repeat (first | apply Kd.R_alloc | apply Kd.R_drewN | apply Kd.R_drew)); exact HO402.out) (Kd.R_base ho0) hb); have n1_ := Aside0.mk (Kd.R_elder' (by (with_reducible repeat (first | apply Kd.R_alloc | apply Kd.R_drewN | apply Kd.R_drew)); exact HO406.out) (Kd.R_base ho0) hb); have n2_ := Aside0.mk (Kd.R_lower (Kd.R_new' (Kd.R_new' ho0 (Kd.R_lt (by (with_reducible repeat (first | apply Kd.R_alloc | apply Kd.R_drewN | apply Kd.R_drew)); exact HO402.out))) (Kd.R_lt (by (with_reducible repeat (first | apply Kd.R_alloc | apply Kd.R_drewN | apply Kd.R_drew)); exact HO406.out))) (below_size (by repeat (first | (with_reducible first | exact HB.out | apply below_alloc | apply pw_below_drewN | apply below_drew1) | exact HB.out)))); have n3_ := Aside0.mk (below_step (by repeat (first | (with_reducible first | exact HB.out | apply below_alloc | apply pw_below_drewN | apply below_drew1) | exact HB.out)) hb); clear HO402; clear HO406; clear HB; have HO402 := n0_; have HO406 := n1_; have HO410 := n2_; have HB := n3_; clear n0_ n1_ n2_ n3_; (try clear hb); (try clear hb2); (try clear hk); (try clear hi); (try clear ho0)) | ((with_reducible refine gate_callee (f := 9) rfl ?_); refine goesL_ (some 52) rfl rfl Tryd.func9 (by kernel_rfl) rfl #[.string ((⟨#[45]⟩ : ByteArray) ++ t397)] rfl (by (try simp only [List.map_toArray, List.map_cons, List.map_nil]); first | done | rfl | (simp only [List.length_drop, List.length_take]; rfl)) ?_; (with_reducible refine (digits_Parse.calls kj2 ((⟨#[45]⟩ : ByteArray) ++ t397) t411 false _ ?side1 A17.out).mono ?_); (case side1 => repeat (first | exact (Kd.C_below HRT0.out HB.out) | (with_reducible refine Kd.C_alloc ?_ _) | (with_reducible refine Kd.C_drewN ?_ _) | (with_reducible refine Kd.C_drew ?_))); rintro e w32 ⟨v413, rfl, ho0, hb⟩; refine ⟨_, rfl, ?_⟩; have n0_ := Aside0.mk (Kd.R_elder' (by (with_reducible repeat (first | apply Kd.R_alloc | apply Kd.R_drewN | apply Kd.R_drew)); exact HO402.out) (Kd.R_base ho0) hb); have n1_ := Aside0.mk (Kd.R_elder' (by (with_reducible repeat (first | apply Kd.R_alloc | apply Kd.R_drewN | apply Kd.R_drew)); exact HO406.out) (Kd.R_base ho0) hb); have n2_ := Aside0.mk (Kd.R_elder' (by (with_reducible repeat (first | apply Kd.R_alloc | apply Kd.R_drewN | apply Kd.R_drew)); exact HO410.out) (Kd.R_base ho0) hb); have n3_ := Aside0.mk (Kd.R_lower (Kd.R_new' (Kd.R_new' (Kd.R_new' ho0 (Kd.R_lt (by (with_reducible repeat (first | apply Kd.R_alloc | apply Kd.R_drewN | apply Kd.R_drew)); exact HO402.out))) (Kd.R_lt (by (with_reducible repeat (first | apply Kd.R_alloc | apply Kd.R_drewN | apply Kd.R_drew)); exact HO406.out))) (Kd.R_lt (by (with_reducible repeat (first | apply Kd.R_alloc | apply Kd.R_drewN | apply Kd.R_drew)); exact HO410.out))) (below_size (by repeat (first | (with_reducible first | exact HB.out | apply below_alloc | apply pw_below_drewN | apply below_drew1) | exact HB.out)))); have n4_ := Aside0.mk (below_step (by repeat (first | (with_reducible first | exact HB.out | apply below_alloc | apply pw_below_drewN | apply below_drew1) | exact HB.out)) hb); clear HO402; clear HO406; clear HO410; clear HB; have HO402 := n0_; have HO406 := n1_; have HO410 := n2_; have HO414 := n3_; have HB := n4_; clear n0_ n1_ n2_ n3_ n4_; (try clear hb); (try clear hb2); (try clear hk); (try clear hi); (try clear ho0); obtain ⟨Ao33, co33, eo33⟩ := Kd.R_slice HO406.out; subst eo33) | (go_at_call 20; (with_reducible refine (mul_Of.calls kj2 _ _ l0 _ _ t403 t415 _ ?side1 ?side2 ?side3 ?side4 A22.out).mono ?_); (case side1 => repeat (first | exact (Kd.C_below HR0.out HB.out) | (with_reducible refine Kd.C_alloc ?_ _) | (with_reducible refine Kd.C_drewN ?_ _) | (with_reducible refine Kd.C_drew ?_))); (case side2 => exact HC0.out); (case side3 => repeat (first | exact (Kd.R_reads' HO406.out).2.2 | (with_reducible refine Kd.C_alloc ?_ _) | (with_reducible refine Kd.C_drewN ?_ _) | (with_reducible refine Kd.C_drew ?_))); (case side4 => exact (Kd.R_reads' HO406.out).2.1); clear A22; rintro e w34 ⟨v416, rfl, ho0, hb⟩; have n0_ := Aside0.mk (Kd.R_elder' (by (with_reducible repeat (first | apply Kd.R_alloc | apply Kd.R_drewN | apply Kd.R_drew)); exact HO402.out) (Kd.R_base ho0) hb); have n1_ := Aside0.mk (Kd.R_elder' (by (with_reducible repeat (first | apply Kd.R_alloc | apply Kd.R_drewN | apply Kd.R_drew)); exact HO406.out) (Kd.R_base ho0) hb); have n2_ := Aside0.mk (Kd.R_elder' (by (with_reducible repeat (first | apply Kd.R_alloc | apply Kd.R_drewN | apply Kd.R_drew)); exact HO410.out) (Kd.R_base ho0) hb); have n3_ := Aside0.mk (Kd.R_elder' (by (with_reducible repeat (first | apply Kd.R_alloc | apply Kd.R_drewN | apply Kd.R_drew)); exact HO414.out) (Kd.R_base ho0) hb); have n4_ := Aside0.mk (Kd.R_lower (Kd.R_new' (Kd.R_new' (Kd.R_new' (Kd.R_new' ho0 (Kd.R_lt (by (with_reducible repeat (first | apply Kd.R_alloc | apply Kd.R_drewN | apply Kd.R_drew)); exact HO402.out))) (Kd.R_lt (by (with_reducible repeat (first | apply Kd.R_alloc | apply Kd.R_drewN | apply Kd.R_drew)); exact HO406.out))) (Kd.R_lt (by (with_reducible repeat (first | apply Kd.R_alloc | apply Kd.R_drewN | apply Kd.R_drew)); exact HO410.out))) (Kd.R_lt (by (with_reducible repeat (first | apply Kd.R_alloc | apply Kd.R_drewN | apply Kd.R_drew)); exact HO414.out))) (below_size (by repeat (first | (with_reducible first | exact HB.out | apply below_alloc | apply pw_below_drewN | apply below_drew1) | exact HB.out)))); have n5_ := Aside0.mk (below_step (by repeat (first | (with_reducible first | exact HB.out | apply below_alloc | apply pw_below_drewN | apply below_drew1) | exact HB.out)) hb); clear HO402; clear HO406; clear HO410; clear HO414; clear HB; have HO402 := n0_; have HO406 := n1_; have HO410 := n2_; have HO414 := n3_; have HO417 := n4_; have HB := n5_; clear n0_ n1_ n2_ n3_ n4_ n5_; (try clear hb); (try clear hb2); (try clear hk); (try clear hi); (try clear ho0); obtain ⟨Ao35, co35, eo35⟩ := Kd.R_slice HO417.out; subst eo35) | (go_at_call 17; (with_reducible refine (nat_Add.calls kj2 _ _ t415 _ _ l1 t418 _ ?side1 ?side2 ?side3 ?side4 A23.out).mono ?_); (case side1 => repeat (first | exact (Kd.R_reads' HO417.out).2.2 | (with_reducible refine Kd.C_alloc ?_ _) | (with_reducible refine Kd.C_drewN ?_ _) | (with_reducible refine Kd.C_drew ?_))); (case side2 => exact (Kd.R_reads' HO417.out).2.1); (case side3 => repeat (first | exact (Kd.C_below HR1.out HB.out) | (with_reducible refine Kd.C_alloc ?_ _) | (with_reducible refine Kd.C_drewN ?_ _) | (with_reducible refine Kd.C_drew ?_))); (case side4 => exact HC1.out); clear A23; rintro e w36 ⟨v419, rfl, ho0, hb⟩; have n0_ := Aside0.mk (Kd.R_elder' (by (with_reducible repeat (first | apply Kd.R_alloc | apply Kd.R_drewN | apply Kd.R_drew)); exact HO402.out) (Kd.R_base ho0) hb); have n1_ := Aside0.mk (Kd.R_elder' (by (with_reducible repeat (first | apply Kd.R_alloc | apply Kd.R_drewN | apply Kd.R_drew)); exact HO406.out) (Kd.R_base ho0) hb); have n2_ := Aside0.mk (Kd.R_elder' (by (with_reducible repeat (first | apply Kd.R_alloc | apply Kd.R_drewN | apply Kd.R_drew)); exact HO410.out) (Kd.R_base ho0) hb); have n3_ := Aside0.mk (Kd.R_elder' (by (with_reducible repeat (first | apply Kd.R_alloc | apply Kd.R_drewN | apply Kd.R_drew)); exact HO414.out) (Kd.R_base ho0) hb); have n4_ := Aside0.mk (Kd.R_elder' (by (with_reducible repeat (first | apply Kd.R_alloc | apply Kd.R_drewN | apply Kd.R_drew)); exact HO417.out) (Kd.R_base ho0) hb); have n5_ := Aside0.mk (Kd.R_lower (Kd.R_new' (Kd.R_new' (Kd.R_new' (Kd.R_new' (Kd.R_new' ho0 (Kd.R_lt (by (with_reducible repeat (first | apply Kd.R_alloc | apply Kd.R_drewN | apply Kd.R_drew)); exact HO402.out))) (Kd.R_lt (by (with_reducible repeat (first | apply Kd.R_alloc | apply Kd.R_drewN | apply Kd.R_drew)); exact HO406.out))) (Kd.R_lt (by (with_reducible repeat (first | apply Kd.R_alloc | apply Kd.R_drewN | apply Kd.R_drew)); exact HO410.out))) (Kd.R_lt (by (with_reducible repeat (first | apply Kd.R_alloc | apply Kd.R_drewN | apply Kd.R_drew)); exact HO414.out))) (Kd.R_lt (by (with_reducible repeat (first | apply Kd.R_alloc | apply Kd.R_drewN | apply Kd.R_drew)); exact HO417.out))) (below_size (by repeat (first | (with_reducible first | exact HB.out | apply below_alloc | apply pw_below_drewN | apply below_drew1) | exact HB.out)))); have n6_ := Aside0.mk (below_step (by repeat (first | (with_reducible first | exact HB.out | apply below_alloc | apply pw_below_drewN | apply below_drew1) | exact HB.out)) hb); clear HO402; clear HO406; clear HO410; clear HO414; clear HO417; clear HB; have HO402 := n0_; have HO406 := n1_; have HO410 := n2_; have HO414 := n3_; have HO417 := n4_; have HO420 := n5_; have HB := n6_; clear n0_ n1_ n2_ n3_ n4_ n5_ n6_; (try clear hb); (try clear hb2); (try clear hk); (try clear hi); (try clear ho0); obtain ⟨Ao37, co37, eo37⟩ := Kd.R_slice HO402.out; subst eo37; obtain ⟨Ao38, co38, eo38⟩ := Kd.R_slice HO420.out; subst eo38) | (go_at_call 12; (with_reducible refine (steelyardkeep_Nat.calls kj2 _ _ t399 _ _ t418 true _ ?side1 ?side2 ?side3 ?side4 A24.out).mono ?_); (case side1 => repeat (first | exact (Kd.R_reads' HO402.out).2.2 | (with_reducible refine Kd.C_alloc ?_ _) | (with_reducible refine Kd.C_drewN ?_ _) | (with_reducible refine Kd.C_drew ?_))); (case side2 => exact (Kd.R_reads' HO402.out).2.1); (case side3 => repeat (first | exact (Kd.R_reads' HO420.out).2.2 | (with_reducible refine Kd.C_alloc ?_ _) | (with_reducible refine Kd.C_drewN ?_ _) | (with_reducible refine Kd.C_drew ?_))); (case side4 => exact (Kd.R_reads' HO420.out).2.1); clear A24; rintro e w' ⟨rfl, ⟨nd, rfl⟩⟩) | (go_at_call 7; (with_reducible refine (steelyardlaw05_wakes.calls kj2  t422 _ ?side1 A26.out).mono ?_); (case side1 => repeat (first | exact (Kd.C_below HRT0.out (by repeat (first | (with_reducible first | exact HB.out | apply below_alloc | apply pw_below_drewN | apply below_drew1) | exact HB.out))) | (with_reducible refine Kd.C_alloc ?_ _) | (with_reducible refine Kd.C_drewN ?_ _) | (with_reducible refine Kd.C_drew ?_))); clear A26; rintro e w39 ⟨rfl, hb⟩; have n0_ := Aside0.mk (Kd.R_below (by (with_reducible repeat (first | apply Kd.R_alloc | apply Kd.R_drewN | apply Kd.R_drew)); exact HO402.out) hb); have n1_ := Aside0.mk (Kd.R_below (by (with_reducible repeat (first | apply Kd.R_alloc | apply Kd.R_drewN | apply Kd.R_drew)); exact HO406.out) hb); have n2_ := Aside0.mk (Kd.R_below (by (with_reducible repeat (first | apply Kd.R_alloc | apply Kd.R_drewN | apply Kd.R_drew)); exact HO410.out) hb); have n3_ := Aside0.mk (Kd.R_below (by (with_reducible repeat (first | apply Kd.R_alloc | apply Kd.R_drewN | apply Kd.R_drew)); exact HO414.out) hb); have n4_ := Aside0.mk (Kd.R_below (by (with_reducible repeat (first | apply Kd.R_alloc | apply Kd.R_drewN | apply Kd.R_drew)); exact HO417.out) hb); have n5_ := Aside0.mk (Kd.R_below (by (with_reducible repeat (first | apply Kd.R_alloc | apply Kd.R_drewN | apply Kd.R_drew)); exact HO420.out) hb); have n6_ := Aside0.mk (below_step (by repeat (first | (with_reducible first | exact HB.out | apply below_alloc | apply pw_below_drewN | apply below_drew1) | exact HB.out)) hb); clear HO402; clear HO406; clear HO410; clear HO414; clear HO417; clear HO420; clear HB; have HO402 := n0_; have HO406 := n1_; have HO410 := n2_; have HO414 := n3_; have HO417 := n4_; have HO420 := n5_; have HB := n6_; clear n0_ n1_ n2_ n3_ n4_ n5_ n6_; (try clear hb); (try clear hb2); (try clear hk); (try clear hi)))
                          go_ret
                          exact ⟨by first | rfl | (simp [errW_none, errW_some] <;> rfl) | (simp [*, errW_none, errW_some] <;> rfl), by repeat (first | (with_reducible first | exact HB.out | apply below_alloc | apply pw_below_drewN | apply below_drew1) | exact HB.out)⟩
                        · replace c25 := Bool.eq_false_iff.mpr c25
                          subst c25
                          have H1 : (none) = some r := by rw [if_neg (show ¬ (false = true) by decide)] at H; exact H
                          clear H
                          have H := H1
                          clear H1
                          exact absurd H (by simp)
                  · replace c19 := Bool.eq_false_iff.mpr c19
                    subst c19
                    have H1 : (none) = some r := by rw [if_neg (show ¬ (false = true) by decide)] at H; exact H
                    clear H
                    have H := H1
                    clear H1
                    exact absurd H (by simp)
                · replace c18 := Bool.eq_false_iff.mpr c18
                  subst c18
                  have H1 : (none) = some r := by rw [if_neg (show ¬ (false = true) by decide)] at H; exact H
                  clear H
                  have H := H1
                  clear H1
                  exact absurd H (by simp)
              · rw [if_neg c16] at H
                exact absurd H (by simp)
            · rw [if_neg c14] at H
              exact absurd H (by simp)
          · rw [if_neg c13] at H
            exact absurd H (by simp)
        · rw [if_neg c10] at H
          exact absurd H (by simp)
def steelyardlaw05_DigitsParts.Pure : Prop := ∀ (l0 : List Int) (l1 : List Int), l0.length ≤ maxLen → l0.length * 4 ≤ 140737488351232 → (∀ x ∈ l0, (Lit.int .u32 x).wf = true) → l1.length ≤ maxLen → l1.length * 4 ≤ 140737488351232 → (∀ x ∈ l1, (Lit.int .u32 x).wf = true) → ∃ k, steelyardlaw05_DigitsParts.f k l0 l1 = some true
theorem steelyardlaw05_DigitsParts.walk (P : steelyardlaw05_DigitsParts.Pure) (a0 : Option Addr) (len0 cap0 : Nat) (z0 : List Int) (a1 : Option Addr) (len1 cap1 : Nat) (z1 : List Int) (w : World) (w0 : (a0 = none ∧ len0 = 0 ∧ cap0 = 0 ∧ z0 = []) ∨ ∃ x, a0 = some x ∧ len0 ≤ cap0 ∧ cap0 ≤ maxLen ∧ z0.length = cap0 ∧ (∀ i, i < z0.length → w.cell? (x.add i) = some (.int .u32 (z0.getD i 0))) ∧ ∀ n ∈ z0, (Lit.int .u32 n).wf = true) (y0 : len0 * 4 ≤ 140737488351232) (w1 : (a1 = none ∧ len1 = 0 ∧ cap1 = 0 ∧ z1 = []) ∨ ∃ x, a1 = some x ∧ len1 ≤ cap1 ∧ cap1 ≤ maxLen ∧ z1.length = cap1 ∧ (∀ i, i < z1.length → w.cell? (x.add i) = some (.int .u32 (z1.getD i 0))) ∧ ∀ n ∈ z1, (Lit.int .u32 n).wf = true) (y1 : len1 * 4 ≤ 140737488351232) (hrT0 : Kd.C (Kd.int .u32) w (some ⟨0, 0, none⟩) tab0_.length tab0_) :
    Calls Tryd.prog 5 #[.slice a0 len0 cap0, .slice a1 len1 cap1] w fun e w' => e = .returned (.bool true) ∧ Below w.heap.size w w' := by
  obtain ⟨l0, rfl, hr0, hm0, hw0, hc0⟩ := ReadsInt.ofRowC w0
  obtain ⟨l1, rfl, hr1, hm1, hw1, hc1⟩ := ReadsInt.ofRowC w1
  obtain ⟨k, h⟩ := P l0 l1 hm0 y0 hw0 hm1 y1 hw1
  refine (steelyardlaw05_DigitsParts.calls k _ _ l0 _ _ l1 true w (Kd.C_of_reads (d := (0 : Int)) (h1 := fun _ => rfl) hr0) hc0 (Kd.C_of_reads (d := (0 : Int)) (h1 := fun _ => rfl) hr1) hc1 hrT0 h).mono ?_
  rintro e w' ⟨rfl, hd⟩
  exact ⟨rfl, hd⟩

end Go.Proofs.YtijjnjdfdoaafaaDoor.P

-- Written by a program of this session (wip/tool), turned from the kit's print. Lean checks it.
import Derived.Test.YtijjnjdfdoaafaaDoorPx0
import Derived.Test.YtijjnjdfdoaafaaDoorPxdigits
import Derived.Test.YtijjnjdfdoaafaaDoorPxsteelyardkeep
import Derived.Test.YtijjnjdfdoaafaaDoorPxsteelyardlaw05
import Derived.Test.YtijjnjdfdoaafaaDoorPxsteelyardref05
namespace Go.Proofs.YtijjnjdfdoaafaaDoor.P
open Go.RowKit Go.Proofs.YtijjnjdfdoaafaaDoorW.PrintWords Go.Proofs.YtijjnjdfdoaafaaDoorW.PrintLast Go.Proofs.YtijjnjdfdoaafaaDoorW.PrintMore
attribute [local go_sem] max2_int min2_int max_two min_two max_three min_three max_four min_four   -- for this text's walks alone
set_option linter.unusedVariables false
set_option linter.unusedSimpArgs false

/-! ### steelyardlaw05_DigitsTell: function 3 -/
mutual
def steelyardlaw05_DigitsTell.j0 : Nat → List Int → ByteArray → Int → Bool → Option (Bool)
  | 0, _, _, _, _ => none
  | k + 1, x0, x1, x2, x20 => if x20 = true then ((steelyardlaw05_wakes.f k).bind fun t328 => (some t328)) else ((steelyardkeep_OwnNat.f x0).bind fun t329 => ((digits_Parse.f k x1).bind fun bt332 => ((steelyardref05_Parse.f k x1).bind fun bt336 => ((digits_Ten.f k x2).bind fun bt341 => (if x2 ≥ 0 then (if (bt341.2 != (decide (x2 ≤ 2000))) = true then (steelyardlaw05_DigitsTell.j1 k x0 t329 bt332.1 bt332.2 true bt336.1 bt336.2) else (if bt341.2 = true then (if x2 ≤ 600 then ((steelyardref05_Ten.f k x2).bind fun t345 => ((steelyardkeep_Nat.f k bt341.1 t345).bind fun t348 => (steelyardlaw05_DigitsTell.j1 k x0 t329 bt332.1 bt332.2 (!t348) bt336.1 bt336.2))) else (steelyardlaw05_DigitsTell.j1 k x0 t329 bt332.1 bt332.2 false bt336.1 bt336.2)) else (if (bt341.1.length : Int) = 0 then (steelyardlaw05_DigitsTell.j1 k x0 t329 bt332.1 bt332.2 false bt336.1 bt336.2) else (steelyardlaw05_DigitsTell.j1 k x0 t329 bt332.1 bt332.2 true bt336.1 bt336.2)))) else (if (bt341.2 != false) = true then (steelyardlaw05_DigitsTell.j1 k x0 t329 bt332.1 bt332.2 true bt336.1 bt336.2) else (if bt341.2 = true then (if x2 ≤ 600 then ((steelyardref05_Ten.f k x2).bind fun t349 => ((steelyardkeep_Nat.f k bt341.1 t349).bind fun t352 => (steelyardlaw05_DigitsTell.j1 k x0 t329 bt332.1 bt332.2 (!t352) bt336.1 bt336.2))) else (steelyardlaw05_DigitsTell.j1 k x0 t329 bt332.1 bt332.2 false bt336.1 bt336.2)) else (if (bt341.1.length : Int) = 0 then (steelyardlaw05_DigitsTell.j1 k x0 t329 bt332.1 bt332.2 false bt336.1 bt336.2) else (steelyardlaw05_DigitsTell.j1 k x0 t329 bt332.1 bt332.2 true bt336.1 bt336.2)))))))))
def steelyardlaw05_DigitsTell.j1 : Nat → List Int → List Int → List Int → Bool → Bool → List Int → Bool → Option (Bool)
  | 0, _, _, _, _, _, _, _ => none
  | k + 1, x0, x7, x8, x9, x66, x341000, x341001 => if x66 = true then (none) else ((digits_Text.f k x7).bind fun t353 => ((steelyardref05_Text.f k x0).bind fun t354 => (if t353.toList = t354.toList then ((steelyardkeep_Nat.f k x8 x341000).bind fun t355 => (if t355 = true then (if (x9 == x341001) = true then ((steelyardkeep_Nat.f k x7 x0).bind fun t356 => (if t356 = true then ((steelyardlaw05_wakes.f k).bind fun t357 => (some t357)) else (none))) else (none)) else (none))) else (none))))
end
def steelyardlaw05_DigitsTell.f (k : Nat) (l0 : List Int) (a1 : ByteArray) (a2 : Int) : Option (Bool) := if (l0.length : Int) > 60 then (steelyardlaw05_DigitsTell.j0 k l0 a1 a2 true) else (steelyardlaw05_DigitsTell.j0 k l0 a1 a2 (decide ((a1.size : Int) > 2100)))
theorem steelyardlaw05_DigitsTell.mono_l : ∀ k, (∀ y0 y1 y2 y3, LeO (steelyardlaw05_DigitsTell.j0 k y0 y1 y2 y3) (steelyardlaw05_DigitsTell.j0 (k + 1) y0 y1 y2 y3)) ∧ (∀ y0 y1 y2 y3 y4 y5 y6, LeO (steelyardlaw05_DigitsTell.j1 k y0 y1 y2 y3 y4 y5 y6) (steelyardlaw05_DigitsTell.j1 (k + 1) y0 y1 y2 y3 y4 y5 y6))
  | 0 => ⟨fun _ _ _ _ r h => by simp [steelyardlaw05_DigitsTell.j0] at h, fun _ _ _ _ _ _ _ r h => by simp [steelyardlaw05_DigitsTell.j1] at h⟩
  | k + 1 => by
    obtain ⟨ih0, ih1⟩ := steelyardlaw05_DigitsTell.mono_l k
    refine ⟨?_, ?_⟩
    · intro y0 y1 y2 y3
      unfold steelyardlaw05_DigitsTell.j0
      repeat' first
      | (with_reducible exact ih0 _ _ _ _)
      | (with_reducible exact ih1 _ _ _ _ _ _ _)
      | (with_reducible exact digits_Parse.mono _ _)
      | (with_reducible exact digits_Ten.mono _ _)
      | (with_reducible exact digits_Text.mono _ _)
      | (with_reducible exact steelyardkeep_Nat.mono _ _ _)
      | (with_reducible exact steelyardlaw05_wakes.mono _)
      | (with_reducible exact steelyardref05_Parse.mono _ _)
      | (with_reducible exact steelyardref05_Ten.mono _ _)
      | (with_reducible exact steelyardref05_Text.mono _ _)
      | (with_reducible exact LeO.refl _)
      | (with_reducible exact LeO.none _)
      | (with_reducible refine LeO.ite ?_ ?_)
      | (with_reducible refine LeO.bind ?_ (fun _ => ?_))
      | exact ih0 _ _ _ _
      | exact ih1 _ _ _ _ _ _ _
      | exact digits_Parse.mono _ _
      | exact digits_Ten.mono _ _
      | exact digits_Text.mono _ _
      | exact steelyardkeep_Nat.mono _ _ _
      | exact steelyardlaw05_wakes.mono _
      | exact steelyardref05_Parse.mono _ _
      | exact steelyardref05_Ten.mono _ _
      | exact steelyardref05_Text.mono _ _
      | exact LeO.none _
      | refine LeO.ite ?_ ?_
      | refine LeO.bind ?_ (fun _ => ?_)
    · intro y0 y1 y2 y3 y4 y5 y6
      unfold steelyardlaw05_DigitsTell.j1
      repeat' first
      | (with_reducible exact ih0 _ _ _ _)
      | (with_reducible exact ih1 _ _ _ _ _ _ _)
      | (with_reducible exact digits_Parse.mono _ _)
      | (with_reducible exact digits_Ten.mono _ _)
      | (with_reducible exact digits_Text.mono _ _)
      | (with_reducible exact steelyardkeep_Nat.mono _ _ _)
      | (with_reducible exact steelyardlaw05_wakes.mono _)
      | (with_reducible exact steelyardref05_Parse.mono _ _)
      | (with_reducible exact steelyardref05_Ten.mono _ _)
      | (with_reducible exact steelyardref05_Text.mono _ _)
      | (with_reducible exact LeO.refl _)
      | (with_reducible exact LeO.none _)
      | (with_reducible refine LeO.ite ?_ ?_)
      | (with_reducible refine LeO.bind ?_ (fun _ => ?_))
      | exact ih0 _ _ _ _
      | exact ih1 _ _ _ _ _ _ _
      | exact digits_Parse.mono _ _
      | exact digits_Ten.mono _ _
      | exact digits_Text.mono _ _
      | exact steelyardkeep_Nat.mono _ _ _
      | exact steelyardlaw05_wakes.mono _
      | exact steelyardref05_Parse.mono _ _
      | exact steelyardref05_Ten.mono _ _
      | exact steelyardref05_Text.mono _ _
      | exact LeO.none _
      | refine LeO.ite ?_ ?_
      | refine LeO.bind ?_ (fun _ => ?_)
theorem steelyardlaw05_DigitsTell.mono : ∀ a0 a1 a2 k, LeO (steelyardlaw05_DigitsTell.f k a0 a1 a2) (steelyardlaw05_DigitsTell.f (k + 1) a0 a1 a2) := by
  intro a0 a1 a2 k
  obtain ⟨ih0, ih1⟩ := steelyardlaw05_DigitsTell.mono_l k
  unfold steelyardlaw05_DigitsTell.f
  repeat' first
      | (with_reducible exact ih0 _ _ _ _)
      | (with_reducible exact ih1 _ _ _ _ _ _ _)
      | (with_reducible exact digits_Parse.mono _ _)
      | (with_reducible exact digits_Ten.mono _ _)
      | (with_reducible exact digits_Text.mono _ _)
      | (with_reducible exact steelyardkeep_Nat.mono _ _ _)
      | (with_reducible exact steelyardlaw05_wakes.mono _)
      | (with_reducible exact steelyardref05_Parse.mono _ _)
      | (with_reducible exact steelyardref05_Ten.mono _ _)
      | (with_reducible exact steelyardref05_Text.mono _ _)
      | (with_reducible exact LeO.refl _)
      | (with_reducible exact LeO.none _)
      | (with_reducible refine LeO.ite ?_ ?_)
      | (with_reducible refine LeO.bind ?_ (fun _ => ?_))
      | exact ih0 _ _ _ _
      | exact ih1 _ _ _ _ _ _ _
      | exact digits_Parse.mono _ _
      | exact digits_Ten.mono _ _
      | exact digits_Text.mono _ _
      | exact steelyardkeep_Nat.mono _ _ _
      | exact steelyardlaw05_wakes.mono _
      | exact steelyardref05_Parse.mono _ _
      | exact steelyardref05_Ten.mono _ _
      | exact steelyardref05_Text.mono _ _
      | exact LeO.none _
      | refine LeO.ite ?_ ?_
      | refine LeO.bind ?_ (fun _ => ?_)
set_option maxHeartbeats 8000000 in
set_option maxRecDepth 100000 in
theorem steelyardlaw05_DigitsTell.calls (k : Nat) (A0 : Option Addr) (c0 : Nat) (l0 : List Int) (a1 : ByteArray) (a2 : Int) (r : Bool) (w : World) (hr0 : Kd.C (Kd.int .u32) w A0 l0.length l0) (hc0 : l0.length ≤ c0) (hrT0 : Kd.C (Kd.int .u32) w (some ⟨0, 0, none⟩) tab0_.length tab0_) (h : steelyardlaw05_DigitsTell.f k l0 a1 a2 = some r) :
    Calls Tryd.prog 3 #[.slice A0 l0.length c0, .string a1, .int .i64 a2] w fun e w' => e = .returned (.bool r) ∧ Below w.heap.size w w' := by
  have hu29 := Tryd.underlying29
  have HR0 := Aside0.mk hr0
  have HC0 := Aside0.mk hc0
  clear hr0 hc0
  have HRT0 := Aside0.mk hrT0
  clear hrT0
  have HB := Aside0.mk (Below.refl w.heap.size w)
  have H : (if (l0.length : Int) > 60 then (steelyardlaw05_DigitsTell.j0 k l0 a1 a2 true) else (steelyardlaw05_DigitsTell.j0 k l0 a1 a2 (decide ((a1.size : Int) > 2100)))) = some r := h
  clear h
  have HC4 := Aside0.mk H
  clear H
  go_enter Tryd.func3, Tryd.ntmps3
  go_upto_region 1 with (fail)
  go_cut [20] (fun v20 wc => ∃ (kq : Nat) (x20_3 : Bool), v20 = .bool x20_3 ∧ Aside0 (steelyardlaw05_DigitsTell.j0 kq l0 a1 a2 x20_3 = some r) ∧ Aside0 (kq ≤ k) ∧ Aside0 (Below w.heap.size w wc))
  case first =>
    have H := HC4.out
    clear HC4
    by_cases c5 : (l0.length : Int) > 60
    · rw [if_pos c5] at H
      have c5b0 : decide (60 < (l0.length : Int)) = true := decide_eq_true c5
      have c5b1 : decide (60 < l0.length) = true := decide_eq_true (by omega)
      clear c5
      (first | rw [c5b0] | rw [c5b1] | (simp only [i64_w, i32_w]; rw [c5b0]) | skip)
      have H' := Aside0.mk H
      clear H
      go_wp2
      go_meet
      case rel => exact ⟨_, (true), (by first | rfl | (simp; done) | (simp [*]; done)), H', ⟨by first | omega | exact Nat.le_refl _⟩, ⟨by repeat (first | (with_reducible first | exact HB.out | apply below_alloc | apply pw_below_drewN | apply below_drew1) | exact HB.out)⟩⟩
    · rw [if_neg c5] at H
      have c5b0 : decide (60 < (l0.length : Int)) = false := decide_eq_false c5
      have c5b1 : decide (60 < l0.length) = false := decide_eq_false (by omega)
      clear c5
      (first | rw [c5b0] | rw [c5b1] | (simp only [i64_w, i32_w]; rw [c5b0]) | skip)
      have H' := Aside0.mk H
      clear H
      go_wp2
      go_meet
      case rel => exact ⟨_, (decide ((a1.size : Int) > 2100)), (by first | rfl | (simp; done) | (simp [*]; done)), H', ⟨by first | omega | exact Nat.le_refl _⟩, ⟨by repeat (first | (with_reducible first | exact HB.out | apply below_alloc | apply pw_below_drewN | apply below_drew1) | exact HB.out)⟩⟩
  case rest =>
    clear HC4
    try clear p2
    try clear c3
    try clear c5
    try clear c5b0
    try clear c5b1
    obtain ⟨kq, x20_3, rfl, HA, HJ3, HB⟩ := hcut
    cases kq with
    | zero => exact absurd HA.out (by simp [steelyardlaw05_DigitsTell.j0])
    | succ kj3 =>
      have H := HA.out
      clear HA
      simp only [steelyardlaw05_DigitsTell.j0] at H
      by_cases c6 : x20_3 = true
      · subst c6
        have H1 : ((steelyardlaw05_wakes.f kj3).bind fun t328 => (some t328)) = some r := by rw [if_pos rfl] at H; exact H
        clear H
        have H := H1
        clear H1
        replace H := Option.bind_eq_some_iff.mp H
        obtain ⟨t328, A70, H⟩ := H
        replace H : (some t328) = some r := H
        have A7 := Aside0.mk A70
        clear A70
        obtain rfl := Option.some.inj H
        go_wp2_with (first | ((with_reducible refine gate_callee (f := 7) rfl ?_); refine goesL_ (some 21) rfl rfl Tryd.func7 (by kernel_rfl) rfl #[] rfl (by (try simp only [List.map_toArray, List.map_cons, List.map_nil]); first | done | rfl | (simp only [List.length_drop, List.length_take]; rfl)) ?_; (with_reducible refine (steelyardlaw05_wakes.calls kj3  t328 _ ?side1 A7.out).mono ?_); (case side1 => repeat (first | exact (Kd.C_below HRT0.out HB.out) | (with_reducible refine Kd.C_alloc ?_ _) | (with_reducible refine Kd.C_drewN ?_ _) | (with_reducible refine Kd.C_drew ?_))); rintro e w8 ⟨rfl, hb⟩; refine ⟨_, rfl, ?_⟩; have n0_ := Aside0.mk (below_step (by repeat (first | (with_reducible first | exact HB.out | apply below_alloc | apply pw_below_drewN | apply below_drew1) | exact HB.out)) hb); clear HB; have HB := n0_; clear n0_; (try clear hb); (try clear hb2); (try clear hk); (try clear hi)))
        go_ret
        exact ⟨by first | rfl | (simp [errW_none, errW_some] <;> rfl) | (simp [*, errW_none, errW_some] <;> rfl), by repeat (first | (with_reducible first | exact HB.out | apply below_alloc | apply pw_below_drewN | apply below_drew1) | exact HB.out)⟩
      · replace c6 := Bool.eq_false_iff.mpr c6
        subst c6
        have H1 : ((steelyardkeep_OwnNat.f l0).bind fun t329 => ((digits_Parse.f kj3 a1).bind fun bt332 => ((steelyardref05_Parse.f kj3 a1).bind fun bt336 => ((digits_Ten.f kj3 a2).bind fun bt341 => (if a2 ≥ 0 then (if (bt341.2 != (decide (a2 ≤ 2000))) = true then (steelyardlaw05_DigitsTell.j1 kj3 l0 t329 bt332.1 bt332.2 true bt336.1 bt336.2) else (if bt341.2 = true then (if a2 ≤ 600 then ((steelyardref05_Ten.f kj3 a2).bind fun t345 => ((steelyardkeep_Nat.f kj3 bt341.1 t345).bind fun t348 => (steelyardlaw05_DigitsTell.j1 kj3 l0 t329 bt332.1 bt332.2 (!t348) bt336.1 bt336.2))) else (steelyardlaw05_DigitsTell.j1 kj3 l0 t329 bt332.1 bt332.2 false bt336.1 bt336.2)) else (if (bt341.1.length : Int) = 0 then (steelyardlaw05_DigitsTell.j1 kj3 l0 t329 bt332.1 bt332.2 false bt336.1 bt336.2) else (steelyardlaw05_DigitsTell.j1 kj3 l0 t329 bt332.1 bt332.2 true bt336.1 bt336.2)))) else (if (bt341.2 != false) = true then (steelyardlaw05_DigitsTell.j1 kj3 l0 t329 bt332.1 bt332.2 true bt336.1 bt336.2) else (if bt341.2 = true then (if a2 ≤ 600 then ((steelyardref05_Ten.f kj3 a2).bind fun t349 => ((steelyardkeep_Nat.f kj3 bt341.1 t349).bind fun t352 => (steelyardlaw05_DigitsTell.j1 kj3 l0 t329 bt332.1 bt332.2 (!t352) bt336.1 bt336.2))) else (steelyardlaw05_DigitsTell.j1 kj3 l0 t329 bt332.1 bt332.2 false bt336.1 bt336.2)) else (if (bt341.1.length : Int) = 0 then (steelyardlaw05_DigitsTell.j1 kj3 l0 t329 bt332.1 bt332.2 false bt336.1 bt336.2) else (steelyardlaw05_DigitsTell.j1 kj3 l0 t329 bt332.1 bt332.2 true bt336.1 bt336.2))))))))) = some r := by rw [if_neg (show ¬ (false = true) by decide)] at H; exact H
        clear H
        have H := H1
        clear H1
        replace H := Option.bind_eq_some_iff.mp H
        obtain ⟨t329, A90, H⟩ := H
        replace H : ((digits_Parse.f kj3 a1).bind fun bt332 => ((steelyardref05_Parse.f kj3 a1).bind fun bt336 => ((digits_Ten.f kj3 a2).bind fun bt341 => (if a2 ≥ 0 then (if (bt341.2 != (decide (a2 ≤ 2000))) = true then (steelyardlaw05_DigitsTell.j1 kj3 l0 t329 bt332.1 bt332.2 true bt336.1 bt336.2) else (if bt341.2 = true then (if a2 ≤ 600 then ((steelyardref05_Ten.f kj3 a2).bind fun t345 => ((steelyardkeep_Nat.f kj3 bt341.1 t345).bind fun t348 => (steelyardlaw05_DigitsTell.j1 kj3 l0 t329 bt332.1 bt332.2 (!t348) bt336.1 bt336.2))) else (steelyardlaw05_DigitsTell.j1 kj3 l0 t329 bt332.1 bt332.2 false bt336.1 bt336.2)) else (if (bt341.1.length : Int) = 0 then (steelyardlaw05_DigitsTell.j1 kj3 l0 t329 bt332.1 bt332.2 false bt336.1 bt336.2) else (steelyardlaw05_DigitsTell.j1 kj3 l0 t329 bt332.1 bt332.2 true bt336.1 bt336.2)))) else (if (bt341.2 != false) = true then (steelyardlaw05_DigitsTell.j1 kj3 l0 t329 bt332.1 bt332.2 true bt336.1 bt336.2) else (if bt341.2 = true then (if a2 ≤ 600 then ((steelyardref05_Ten.f kj3 a2).bind fun t349 => ((steelyardkeep_Nat.f kj3 bt341.1 t349).bind fun t352 => (steelyardlaw05_DigitsTell.j1 kj3 l0 t329 bt332.1 bt332.2 (!t352) bt336.1 bt336.2))) else (steelyardlaw05_DigitsTell.j1 kj3 l0 t329 bt332.1 bt332.2 false bt336.1 bt336.2)) else (if (bt341.1.length : Int) = 0 then (steelyardlaw05_DigitsTell.j1 kj3 l0 t329 bt332.1 bt332.2 false bt336.1 bt336.2) else (steelyardlaw05_DigitsTell.j1 kj3 l0 t329 bt332.1 bt332.2 true bt336.1 bt336.2)))))))) = some r := H
        have A9 := Aside0.mk A90
        clear A90
        replace H := Option.bind_eq_some_iff.mp H
        obtain ⟨⟨t332, t333⟩, A100, H⟩ := H
        replace H : ((steelyardref05_Parse.f kj3 a1).bind fun bt336 => ((digits_Ten.f kj3 a2).bind fun bt341 => (if a2 ≥ 0 then (if (bt341.2 != (decide (a2 ≤ 2000))) = true then (steelyardlaw05_DigitsTell.j1 kj3 l0 t329 t332 t333 true bt336.1 bt336.2) else (if bt341.2 = true then (if a2 ≤ 600 then ((steelyardref05_Ten.f kj3 a2).bind fun t345 => ((steelyardkeep_Nat.f kj3 bt341.1 t345).bind fun t348 => (steelyardlaw05_DigitsTell.j1 kj3 l0 t329 t332 t333 (!t348) bt336.1 bt336.2))) else (steelyardlaw05_DigitsTell.j1 kj3 l0 t329 t332 t333 false bt336.1 bt336.2)) else (if (bt341.1.length : Int) = 0 then (steelyardlaw05_DigitsTell.j1 kj3 l0 t329 t332 t333 false bt336.1 bt336.2) else (steelyardlaw05_DigitsTell.j1 kj3 l0 t329 t332 t333 true bt336.1 bt336.2)))) else (if (bt341.2 != false) = true then (steelyardlaw05_DigitsTell.j1 kj3 l0 t329 t332 t333 true bt336.1 bt336.2) else (if bt341.2 = true then (if a2 ≤ 600 then ((steelyardref05_Ten.f kj3 a2).bind fun t349 => ((steelyardkeep_Nat.f kj3 bt341.1 t349).bind fun t352 => (steelyardlaw05_DigitsTell.j1 kj3 l0 t329 t332 t333 (!t352) bt336.1 bt336.2))) else (steelyardlaw05_DigitsTell.j1 kj3 l0 t329 t332 t333 false bt336.1 bt336.2)) else (if (bt341.1.length : Int) = 0 then (steelyardlaw05_DigitsTell.j1 kj3 l0 t329 t332 t333 false bt336.1 bt336.2) else (steelyardlaw05_DigitsTell.j1 kj3 l0 t329 t332 t333 true bt336.1 bt336.2))))))) = some r := H
        have A10 := Aside0.mk A100
        clear A100
        replace H := Option.bind_eq_some_iff.mp H
        obtain ⟨⟨t336, t339⟩, A110, H⟩ := H
        replace H : ((digits_Ten.f kj3 a2).bind fun bt341 => (if a2 ≥ 0 then (if (bt341.2 != (decide (a2 ≤ 2000))) = true then (steelyardlaw05_DigitsTell.j1 kj3 l0 t329 t332 t333 true t336 t339) else (if bt341.2 = true then (if a2 ≤ 600 then ((steelyardref05_Ten.f kj3 a2).bind fun t345 => ((steelyardkeep_Nat.f kj3 bt341.1 t345).bind fun t348 => (steelyardlaw05_DigitsTell.j1 kj3 l0 t329 t332 t333 (!t348) t336 t339))) else (steelyardlaw05_DigitsTell.j1 kj3 l0 t329 t332 t333 false t336 t339)) else (if (bt341.1.length : Int) = 0 then (steelyardlaw05_DigitsTell.j1 kj3 l0 t329 t332 t333 false t336 t339) else (steelyardlaw05_DigitsTell.j1 kj3 l0 t329 t332 t333 true t336 t339)))) else (if (bt341.2 != false) = true then (steelyardlaw05_DigitsTell.j1 kj3 l0 t329 t332 t333 true t336 t339) else (if bt341.2 = true then (if a2 ≤ 600 then ((steelyardref05_Ten.f kj3 a2).bind fun t349 => ((steelyardkeep_Nat.f kj3 bt341.1 t349).bind fun t352 => (steelyardlaw05_DigitsTell.j1 kj3 l0 t329 t332 t333 (!t352) t336 t339))) else (steelyardlaw05_DigitsTell.j1 kj3 l0 t329 t332 t333 false t336 t339)) else (if (bt341.1.length : Int) = 0 then (steelyardlaw05_DigitsTell.j1 kj3 l0 t329 t332 t333 false t336 t339) else (steelyardlaw05_DigitsTell.j1 kj3 l0 t329 t332 t333 true t336 t339)))))) = some r := H
        have A11 := Aside0.mk A110
        clear A110
        replace H := Option.bind_eq_some_iff.mp H
        obtain ⟨⟨t341, t342⟩, A120, H⟩ := H
        replace H : (if a2 ≥ 0 then (if (t342 != (decide (a2 ≤ 2000))) = true then (steelyardlaw05_DigitsTell.j1 kj3 l0 t329 t332 t333 true t336 t339) else (if t342 = true then (if a2 ≤ 600 then ((steelyardref05_Ten.f kj3 a2).bind fun t345 => ((steelyardkeep_Nat.f kj3 t341 t345).bind fun t348 => (steelyardlaw05_DigitsTell.j1 kj3 l0 t329 t332 t333 (!t348) t336 t339))) else (steelyardlaw05_DigitsTell.j1 kj3 l0 t329 t332 t333 false t336 t339)) else (if (t341.length : Int) = 0 then (steelyardlaw05_DigitsTell.j1 kj3 l0 t329 t332 t333 false t336 t339) else (steelyardlaw05_DigitsTell.j1 kj3 l0 t329 t332 t333 true t336 t339)))) else (if (t342 != false) = true then (steelyardlaw05_DigitsTell.j1 kj3 l0 t329 t332 t333 true t336 t339) else (if t342 = true then (if a2 ≤ 600 then ((steelyardref05_Ten.f kj3 a2).bind fun t349 => ((steelyardkeep_Nat.f kj3 t341 t349).bind fun t352 => (steelyardlaw05_DigitsTell.j1 kj3 l0 t329 t332 t333 (!t352) t336 t339))) else (steelyardlaw05_DigitsTell.j1 kj3 l0 t329 t332 t333 false t336 t339)) else (if (t341.length : Int) = 0 then (steelyardlaw05_DigitsTell.j1 kj3 l0 t329 t332 t333 false t336 t339) else (steelyardlaw05_DigitsTell.j1 kj3 l0 t329 t332 t333 true t336 t339))))) = some r := H
        have A12 := Aside0.mk A120
        clear A120
        have HC13 := Aside0.mk H
        clear H
        go_upto_region 7 with (first | ((with_reducible refine gate_callee (f := 8) rfl ?_); refine goesL_ (some 23) rfl rfl Tryd.func8 (by kernel_rfl) rfl #[.slice A0 l0.length c0] rfl (by (try simp only [List.map_toArray, List.map_cons, List.map_nil]); first | done | rfl | (simp only [List.length_drop, List.length_take]; rfl)) ?_; (with_reducible refine (steelyardkeep_OwnNat.calls _ _ l0 t329 _ ?side1 ?side2 A9.out).mono ?_); (case side1 => repeat (first | exact (Kd.C_below HR0.out HB.out) | (with_reducible refine Kd.C_alloc ?_ _) | (with_reducible refine Kd.C_drewN ?_ _) | (with_reducible refine Kd.C_drew ?_))); (case side2 => exact HC0.out); rintro e w14 ⟨v330, rfl, ho0, hb⟩; refine ⟨_, rfl, ?_⟩; have n0_ := Aside0.mk (Kd.R_lower ho0 (below_size (by repeat (first | (with_reducible first | exact HB.out | apply below_alloc | apply pw_below_drewN | apply below_drew1) | exact HB.out)))); have n1_ := Aside0.mk (below_step (by repeat (first | (with_reducible first | exact HB.out | apply below_alloc | apply pw_below_drewN | apply below_drew1) | exact HB.out)) hb); clear HB; have HO331 := n0_; have HB := n1_; clear n0_ n1_; (try clear hb); (try clear hb2); (try clear hk); (try clear hi); (try clear ho0)) | ((with_reducible refine gate_callee (f := 9) rfl ?_); refine goesL_ (some 26) rfl rfl Tryd.func9 (by kernel_rfl) rfl #[.string a1] rfl (by (try simp only [List.map_toArray, List.map_cons, List.map_nil]); first | done | rfl | (simp only [List.length_drop, List.length_take]; rfl)) ?_; (with_reducible refine (digits_Parse.calls kj3 a1 t332 t333 _ ?side1 A10.out).mono ?_); (case side1 => repeat (first | exact (Kd.C_below HRT0.out HB.out) | (with_reducible refine Kd.C_alloc ?_ _) | (with_reducible refine Kd.C_drewN ?_ _) | (with_reducible refine Kd.C_drew ?_))); rintro e w15 ⟨v334, rfl, ho0, hb⟩; refine ⟨_, rfl, ?_⟩; have n0_ := Aside0.mk (Kd.R_elder' (by (with_reducible repeat (first | apply Kd.R_alloc | apply Kd.R_drewN | apply Kd.R_drew)); exact HO331.out) (Kd.R_base ho0) hb); have n1_ := Aside0.mk (Kd.R_lower (Kd.R_new' ho0 (Kd.R_lt (by (with_reducible repeat (first | apply Kd.R_alloc | apply Kd.R_drewN | apply Kd.R_drew)); exact HO331.out))) (below_size (by repeat (first | (with_reducible first | exact HB.out | apply below_alloc | apply pw_below_drewN | apply below_drew1) | exact HB.out)))); have n2_ := Aside0.mk (below_step (by repeat (first | (with_reducible first | exact HB.out | apply below_alloc | apply pw_below_drewN | apply below_drew1) | exact HB.out)) hb); clear HO331; clear HB; have HO331 := n0_; have HO335 := n1_; have HB := n2_; clear n0_ n1_ n2_; (try clear hb); (try clear hb2); (try clear hk); (try clear hi); (try clear ho0)) | ((with_reducible refine gate_callee (f := 10) rfl ?_); refine goesL_ (some 30) rfl rfl Tryd.func10 (by kernel_rfl) rfl #[.string a1] rfl (by (try simp only [List.map_toArray, List.map_cons, List.map_nil]); first | done | rfl | (simp only [List.length_drop, List.length_take]; rfl)) ?_; (with_reducible refine (steelyardref05_Parse.calls kj3 a1 t336 t339 _ A11.out).mono ?_); rintro e w16 ⟨v337, rfl, ho0, hb⟩; refine ⟨_, rfl, ?_⟩; have n0_ := Aside0.mk (Kd.R_elder' (by (with_reducible repeat (first | apply Kd.R_alloc | apply Kd.R_drewN | apply Kd.R_drew)); exact HO331.out) (Kd.R_base ho0) hb); have n1_ := Aside0.mk (Kd.R_elder' (by (with_reducible repeat (first | apply Kd.R_alloc | apply Kd.R_drewN | apply Kd.R_drew)); exact HO335.out) (Kd.R_base ho0) hb); have n2_ := Aside0.mk (Kd.R_lower (Kd.R_new' (Kd.R_new' ho0 (Kd.R_lt (by (with_reducible repeat (first | apply Kd.R_alloc | apply Kd.R_drewN | apply Kd.R_drew)); exact HO331.out))) (Kd.R_lt (by (with_reducible repeat (first | apply Kd.R_alloc | apply Kd.R_drewN | apply Kd.R_drew)); exact HO335.out))) (below_size (by repeat (first | (with_reducible first | exact HB.out | apply below_alloc | apply pw_below_drewN | apply below_drew1) | exact HB.out)))); have n3_ := Aside0.mk (below_step (by repeat (first | (with_reducible first | exact HB.out | apply below_alloc | apply pw_below_drewN | apply below_drew1) | exact HB.out)) hb); clear HO331; clear HO335; clear HB; have HO331 := n0_; have HO335 := n1_; have HO338 := n2_; have HB := n3_; clear n0_ n1_ n2_ n3_; (try clear hb); (try clear hb2); (try clear hk); (try clear hi); (try clear ho0)) | ((with_reducible refine gate_dst (N := 10) rfl ?_); (try (refine gate_guard (by rfl) ?_; dsimp only)); refine box_event ?hg (N := 10) ?hd (cs := #[.slice none 0 0, .bool false]) (t := 29) ?hr ?_; (case hd => rfl); (case hg => rfl); (case hr => first | (go_simp; done) | (go_simp; rfl) | (go_simp; simp only [u32_u8, u64_u8]; first | done | rfl)); intro gb340 hg w17 hbox hb; have n0_ := Aside0.mk (Kd.R_below (by (with_reducible repeat (first | apply Kd.R_alloc | apply Kd.R_drewN | apply Kd.R_drew)); exact HO331.out) hb); have n1_ := Aside0.mk (Kd.R_below (by (with_reducible repeat (first | apply Kd.R_alloc | apply Kd.R_drewN | apply Kd.R_drew)); exact HO335.out) hb); have n2_ := Aside0.mk (Kd.R_below (by (with_reducible repeat (first | apply Kd.R_alloc | apply Kd.R_drewN | apply Kd.R_drew)); exact HO338.out) hb); have n3_ := Aside0.mk (below_step (by repeat (first | (with_reducible first | exact HB.out | apply below_alloc | apply pw_below_drewN | apply below_drew1) | exact HB.out)) hb); have n4_ := Aside0.mk (hbox); have n5_ := Aside0.mk ((by rw [hg]; exact (below_size (by repeat (first | (with_reducible first | exact HB.out | apply below_alloc | apply pw_below_drewN | apply below_drew1) | exact HB.out))) : w.heap.size ≤ gb340)); have n6_ := Aside0.mk ((by rw [hg]; exact (below_size (by repeat (first | (with_reducible first | exact HB.out | apply below_alloc | apply pw_below_drewN | apply below_drew1) | exact HB.out))) : w.heap.size ≤ gb340)); clear HO331; clear HO335; clear HO338; clear HB; have HO331 := n0_; have HO335 := n1_; have HO338 := n2_; have HB := n3_; have BK340 := n4_; have GW340 := n5_; have GE340 := n6_; clear n0_ n1_ n2_ n3_ n4_ n5_ n6_; clear hb hbox hg; obtain ⟨Ao18, co18, eo18⟩ := Kd.R_slice HO338.out; subst eo18; have hcz19_0 : w17.cell? ⟨gb340, 0, none⟩ = some (.slice none 0 0) := (blk_cell BK340.out 0).trans rfl; have hcz19_1 : w17.cell? ⟨gb340, 1, none⟩ = some (.bool false) := (blk_cell BK340.out 1).trans rfl; have hfz19_0 := blk_frozen BK340.out 0; have hfz19_1 := blk_frozen BK340.out 1) | ((with_reducible refine gate_callee (f := 11) rfl ?_); refine goesL_ (some 33) rfl rfl Tryd.func11 (by kernel_rfl) rfl #[.int .i64 a2] rfl (by (try simp only [List.map_toArray, List.map_cons, List.map_nil]); first | done | rfl | (simp only [List.length_drop, List.length_take]; rfl)) ?_; (with_reducible refine (digits_Ten.calls kj3 a2 t341 t342 _ ?side1 A12.out).mono ?_); (case side1 => exact Kd.C_below HRT0.out (by repeat (first | (with_reducible first | exact HB.out | apply below_alloc | apply pw_below_drewN | apply below_drew1 | refine below_set ?_ GE340.out) | exact HB.out))); rintro e w20 ⟨v343, rfl, ho0, hb⟩; refine ⟨_, rfl, ?_⟩; have n0_ := Aside0.mk (Kd.R_elder' (by (with_reducible repeat (first | apply Kd.R_alloc | apply Kd.R_drewN | apply Kd.R_drew)); exact (Kd.R_mono (Kd.R_far (p := ⟨gb340, 1, none⟩) (Kd.R_far (p := ⟨gb340, 0, none⟩) (Kd.R_types HO331.out BK340.out (by decide)) (fun _ hk => hk.2) (.slice Ao18 t336.length co18)) (fun _ hk => hk.2) (.bool t339)) (fun _ h_ => h_.1))) (Kd.R_base ho0) hb); have n1_ := Aside0.mk (Kd.R_elder' (by (with_reducible repeat (first | apply Kd.R_alloc | apply Kd.R_drewN | apply Kd.R_drew)); exact (Kd.R_mono (Kd.R_far (p := ⟨gb340, 1, none⟩) (Kd.R_far (p := ⟨gb340, 0, none⟩) (Kd.R_types HO335.out BK340.out (by decide)) (fun _ hk => hk.2) (.slice Ao18 t336.length co18)) (fun _ hk => hk.2) (.bool t339)) (fun _ h_ => h_.1))) (Kd.R_base ho0) hb); have n2_ := Aside0.mk (Kd.R_elder' (by (with_reducible repeat (first | apply Kd.R_alloc | apply Kd.R_drewN | apply Kd.R_drew)); exact (Kd.R_mono (Kd.R_far (p := ⟨gb340, 1, none⟩) (Kd.R_far (p := ⟨gb340, 0, none⟩) (Kd.R_types HO338.out BK340.out (by decide)) (fun _ hk => hk.2) (.slice Ao18 t336.length co18)) (fun _ hk => hk.2) (.bool t339)) (fun _ h_ => h_.1))) (Kd.R_base ho0) hb); have n3_ := Aside0.mk (Kd.R_lower (Kd.R_new' (Kd.R_new' (Kd.R_new' ho0 (Kd.R_lt (by (with_reducible repeat (first | apply Kd.R_alloc | apply Kd.R_drewN | apply Kd.R_drew)); exact (Kd.R_mono (Kd.R_far (p := ⟨gb340, 1, none⟩) (Kd.R_far (p := ⟨gb340, 0, none⟩) (Kd.R_types HO331.out BK340.out (by decide)) (fun _ hk => hk.2) (.slice Ao18 t336.length co18)) (fun _ hk => hk.2) (.bool t339)) (fun _ h_ => h_.1))))) (Kd.R_lt (by (with_reducible repeat (first | apply Kd.R_alloc | apply Kd.R_drewN | apply Kd.R_drew)); exact (Kd.R_mono (Kd.R_far (p := ⟨gb340, 1, none⟩) (Kd.R_far (p := ⟨gb340, 0, none⟩) (Kd.R_types HO335.out BK340.out (by decide)) (fun _ hk => hk.2) (.slice Ao18 t336.length co18)) (fun _ hk => hk.2) (.bool t339)) (fun _ h_ => h_.1))))) (Kd.R_lt (by (with_reducible repeat (first | apply Kd.R_alloc | apply Kd.R_drewN | apply Kd.R_drew)); exact (Kd.R_mono (Kd.R_far (p := ⟨gb340, 1, none⟩) (Kd.R_far (p := ⟨gb340, 0, none⟩) (Kd.R_types HO338.out BK340.out (by decide)) (fun _ hk => hk.2) (.slice Ao18 t336.length co18)) (fun _ hk => hk.2) (.bool t339)) (fun _ h_ => h_.1))))) (below_size (by repeat (first | (with_reducible first | exact HB.out | apply below_alloc | apply pw_below_drewN | apply below_drew1 | refine below_set ?_ GE340.out) | exact HB.out)))); have n4_ := Aside0.mk (blk_below (g := gb340) (o := .cells #[.slice Ao18 t336.length co18, .bool t339] 29 (0, 0)) (by (with_reducible repeat (first | refine blk_drewN ?_ _ | refine blk_drew ?_ | refine blk_alloc ?_ _)); refine blk_put (cs := #[.slice Ao18 t336.length co18, .bool false]) ?_ 1 _ rfl; (with_reducible repeat (first | refine blk_drewN ?_ _ | refine blk_drew ?_ | refine blk_alloc ?_ _)); refine blk_put (cs := #[.slice none 0 0, .bool false]) ?_ 0 _ rfl; (with_reducible repeat (first | refine blk_drewN ?_ _ | refine blk_drew ?_ | refine blk_alloc ?_ _)); exact BK340.out) hb); have n5_ := Aside0.mk (below_step (by repeat (first | (with_reducible first | exact HB.out | apply below_alloc | apply pw_below_drewN | apply below_drew1 | refine below_set ?_ GE340.out) | exact HB.out)) hb); clear HO331; clear HO335; clear HO338; clear BK340; clear HB; have HO331 := n0_; have HO335 := n1_; have HO338 := n2_; have HO344 := n3_; have BK340 := n4_; have HB := n5_; clear n0_ n1_ n2_ n3_ n4_ n5_; (try clear hb); (try clear hb2); (try clear hk); (try clear hi); (try clear ho0)))
        (try simp only [Act.put, List.setIfInBounds_toArray, List.set_cons_zero, List.set_cons_succ])
        go_cut [66] (fun v66 wc => ∃ (kq : Nat) (x66_12 : Bool), v66 = .bool x66_12 ∧ Aside0 (steelyardlaw05_DigitsTell.j1 kq l0 t329 t332 t333 x66_12 t336 t339 = some r) ∧ Aside0 (kq ≤ kj3) ∧ Aside0 (Kd.R (Kd.int .u32) 39 wc w.heap.size (fun k_ => some k_ ≠ (v334 : Value).ownBlock ∧ some k_ ≠ ((.slice Ao18 t336.length co18) : Value).ownBlock) v330 t329) ∧ Aside0 (Kd.R (Kd.int .u32) 39 wc w.heap.size (fun k_ => some k_ ≠ (v330 : Value).ownBlock ∧ some k_ ≠ ((.slice Ao18 t336.length co18) : Value).ownBlock) v334 t332) ∧ Aside0 (Kd.R (Kd.int .u32) 39 wc w.heap.size (fun k_ => some k_ ≠ (v330 : Value).ownBlock ∧ some k_ ≠ (v334 : Value).ownBlock) (.slice Ao18 t336.length co18) t336) ∧ Aside0 (wc.heap[gb340]? = some (.cells #[(.slice Ao18 t336.length co18), .bool t339] 29 (0, 0))) ∧ Aside0 (Below w.heap.size w wc))
        case first =>
          have H := HC13.out
          clear HC13
          by_cases c21 : a2 ≥ 0
          · rw [if_pos c21] at H
            have c21b0 : decide (0 ≤ a2) = true := decide_eq_true c21
            clear c21
            (first | rw [c21b0] | rw [c21b1] | (simp only [i64_w, i32_w]; rw [c21b0]) | skip)
            by_cases c22 : (t342 != (decide (a2 ≤ 2000))) = true
            · rw [if_pos c22] at H
              have c22b0 : (t342 != (decide (a2 ≤ 2000))) = true := c22
              (try (have c22b1 : decide (t342 = (decide (a2 ≤ 2000))) = false := by simpa using c22))
              (try (have c22b2 : (t342 == (decide (a2 ≤ 2000))) = false := by simpa using c22))
              (try (have c22b3 : ¬ (t342 = (decide (a2 ≤ 2000))) := by simpa using c22))
              clear c22
              have H' := Aside0.mk H
              clear H
              go_wp2
              go_meet
              case rel => exact ⟨_, (true), (by first | rfl | (simp; done) | (simp [*]; done)), H', ⟨by have := HJ3.out; first | omega | exact Nat.le_refl _⟩, ⟨by (with_reducible repeat (first | apply Kd.R_alloc | apply Kd.R_drewN | apply Kd.R_drew)); exact Kd.R_mono HO331.out (fun _ hk => ⟨hk.1.1.2, hk.1.2⟩)⟩, ⟨by (with_reducible repeat (first | apply Kd.R_alloc | apply Kd.R_drewN | apply Kd.R_drew)); exact Kd.R_mono HO335.out (fun _ hk => ⟨hk.1.1.2, hk.1.2⟩)⟩, ⟨by (with_reducible repeat (first | apply Kd.R_alloc | apply Kd.R_drewN | apply Kd.R_drew)); exact Kd.R_mono HO338.out (fun _ hk => ⟨hk.1.1.2, hk.1.2⟩)⟩, ⟨by (with_reducible repeat (first | refine blk_drewN ?_ _ | refine blk_drew ?_ | refine blk_alloc ?_ _)); exact BK340.out⟩, ⟨by repeat (first | (with_reducible first | exact HB.out | apply below_alloc | apply pw_below_drewN | apply below_drew1 | refine below_set ?_ GE340.out) | exact HB.out)⟩⟩
            · rw [if_neg c22] at H
              have c22b0 : (t342 != (decide (a2 ≤ 2000))) = false := by simpa using c22
              (try (have c22b1 : decide (t342 = (decide (a2 ≤ 2000))) = true := by simpa using c22))
              (try (have c22b2 : (t342 == (decide (a2 ≤ 2000))) = true := by simpa using c22))
              clear c22
              by_cases c23 : t342 = true
              · subst c23
                have H1 : (if a2 ≤ 600 then ((steelyardref05_Ten.f kj3 a2).bind fun t345 => ((steelyardkeep_Nat.f kj3 t341 t345).bind fun t348 => (steelyardlaw05_DigitsTell.j1 kj3 l0 t329 t332 t333 (!t348) t336 t339))) else (steelyardlaw05_DigitsTell.j1 kj3 l0 t329 t332 t333 false t336 t339)) = some r := by rw [if_pos rfl] at H; exact H
                clear H
                have H := H1
                clear H1
                by_cases c24 : a2 ≤ 600
                · rw [if_pos c24] at H
                  have c24b0 : decide (a2 ≤ 600) = true := decide_eq_true c24
                  clear c24
                  replace H := Option.bind_eq_some_iff.mp H
                  obtain ⟨t345, A250, H⟩ := H
                  replace H : ((steelyardkeep_Nat.f kj3 t341 t345).bind fun t348 => (steelyardlaw05_DigitsTell.j1 kj3 l0 t329 t332 t333 (!t348) t336 t339)) = some r := H
                  have A25 := Aside0.mk A250
                  clear A250
                  replace H := Option.bind_eq_some_iff.mp H
                  obtain ⟨t348, A260, H⟩ := H
                  replace H : (steelyardlaw05_DigitsTell.j1 kj3 l0 t329 t332 t333 (!t348) t336 t339) = some r := H
                  have A26 := Aside0.mk A260
                  clear A260
                  have H' := Aside0.mk H
                  clear H
                  go_wp2_with (first | (go_at_call 13; (with_reducible refine (steelyardref05_Ten.calls kj3 a2 t345 _ A25.out).mono ?_); clear A25; rintro e w27 ⟨v346, rfl, ho0, hb⟩; have n0_ := Aside0.mk (Kd.R_elder' (by (with_reducible repeat (first | apply Kd.R_alloc | apply Kd.R_drewN | apply Kd.R_drew)); exact HO331.out) (Kd.R_base ho0) hb); have n1_ := Aside0.mk (Kd.R_elder' (by (with_reducible repeat (first | apply Kd.R_alloc | apply Kd.R_drewN | apply Kd.R_drew)); exact HO335.out) (Kd.R_base ho0) hb); have n2_ := Aside0.mk (Kd.R_elder' (by (with_reducible repeat (first | apply Kd.R_alloc | apply Kd.R_drewN | apply Kd.R_drew)); exact HO338.out) (Kd.R_base ho0) hb); have n3_ := Aside0.mk (Kd.R_elder' (by (with_reducible repeat (first | apply Kd.R_alloc | apply Kd.R_drewN | apply Kd.R_drew)); exact HO344.out) (Kd.R_base ho0) hb); have n4_ := Aside0.mk (Kd.R_lower (Kd.R_new' (Kd.R_new' (Kd.R_new' (Kd.R_new' ho0 (Kd.R_lt (by (with_reducible repeat (first | apply Kd.R_alloc | apply Kd.R_drewN | apply Kd.R_drew)); exact HO331.out))) (Kd.R_lt (by (with_reducible repeat (first | apply Kd.R_alloc | apply Kd.R_drewN | apply Kd.R_drew)); exact HO335.out))) (Kd.R_lt (by (with_reducible repeat (first | apply Kd.R_alloc | apply Kd.R_drewN | apply Kd.R_drew)); exact HO338.out))) (Kd.R_lt (by (with_reducible repeat (first | apply Kd.R_alloc | apply Kd.R_drewN | apply Kd.R_drew)); exact HO344.out))) (below_size (by repeat (first | (with_reducible first | exact HB.out | apply below_alloc | apply pw_below_drewN | apply below_drew1 | refine below_set ?_ GE340.out) | exact HB.out)))); have n5_ := Aside0.mk (blk_below (g := gb340) (o := .cells #[.slice Ao18 t336.length co18, .bool t339] 29 (0, 0)) (by (with_reducible repeat (first | refine blk_drewN ?_ _ | refine blk_drew ?_ | refine blk_alloc ?_ _)); exact BK340.out) hb); have n6_ := Aside0.mk (below_step (by repeat (first | (with_reducible first | exact HB.out | apply below_alloc | apply pw_below_drewN | apply below_drew1 | refine below_set ?_ GE340.out) | exact HB.out)) hb); clear HO331; clear HO335; clear HO338; clear HO344; clear BK340; clear HB; have HO331 := n0_; have HO335 := n1_; have HO338 := n2_; have HO344 := n3_; have HO347 := n4_; have BK340 := n5_; have HB := n6_; clear n0_ n1_ n2_ n3_ n4_ n5_ n6_; (try clear hb); (try clear hb2); (try clear hk); (try clear hi); (try clear ho0); obtain ⟨Ao28, co28, eo28⟩ := Kd.R_slice HO344.out; subst eo28; obtain ⟨Ao29, co29, eo29⟩ := Kd.R_slice HO347.out; subst eo29) | (go_at_call 12; (with_reducible refine (steelyardkeep_Nat.calls kj3 _ _ t341 _ _ t345 t348 _ ?side1 ?side2 ?side3 ?side4 A26.out).mono ?_); (case side1 => repeat (first | exact (Kd.R_reads' HO344.out).2.2 | (with_reducible refine Kd.C_alloc ?_ _) | (with_reducible refine Kd.C_drewN ?_ _) | (with_reducible refine Kd.C_drew ?_))); (case side2 => exact (Kd.R_reads' HO344.out).2.1); (case side3 => repeat (first | exact (Kd.R_reads' HO347.out).2.2 | (with_reducible refine Kd.C_alloc ?_ _) | (with_reducible refine Kd.C_drewN ?_ _) | (with_reducible refine Kd.C_drew ?_))); (case side4 => exact (Kd.R_reads' HO347.out).2.1); clear A26; rintro e w' ⟨rfl, ⟨nd, rfl⟩⟩))
                  go_meet
                  case rel => exact ⟨_, (!t348), (by first | rfl | (simp; done) | (simp [*]; done)), H', ⟨by have := HJ3.out; first | omega | exact Nat.le_refl _⟩, ⟨by (with_reducible repeat (first | apply Kd.R_alloc | apply Kd.R_drewN | apply Kd.R_drew)); exact Kd.R_mono HO331.out (fun _ hk => ⟨hk.1.1.1.2, hk.1.1.2⟩)⟩, ⟨by (with_reducible repeat (first | apply Kd.R_alloc | apply Kd.R_drewN | apply Kd.R_drew)); exact Kd.R_mono HO335.out (fun _ hk => ⟨hk.1.1.1.2, hk.1.1.2⟩)⟩, ⟨by (with_reducible repeat (first | apply Kd.R_alloc | apply Kd.R_drewN | apply Kd.R_drew)); exact Kd.R_mono HO338.out (fun _ hk => ⟨hk.1.1.1.2, hk.1.1.2⟩)⟩, ⟨by (with_reducible repeat (first | refine blk_drewN ?_ _ | refine blk_drew ?_ | refine blk_alloc ?_ _)); exact BK340.out⟩, ⟨by repeat (first | (with_reducible first | exact HB.out | apply below_alloc | apply pw_below_drewN | apply below_drew1 | refine below_set ?_ GE340.out) | exact HB.out)⟩⟩
                · rw [if_neg c24] at H
                  have c24b0 : decide (a2 ≤ 600) = false := decide_eq_false c24
                  clear c24
                  have H' := Aside0.mk H
                  clear H
                  go_wp2
                  go_meet
                  case rel => exact ⟨_, (false), (by first | rfl | (simp; done) | (simp [*]; done)), H', ⟨by have := HJ3.out; first | omega | exact Nat.le_refl _⟩, ⟨by (with_reducible repeat (first | apply Kd.R_alloc | apply Kd.R_drewN | apply Kd.R_drew)); exact Kd.R_mono HO331.out (fun _ hk => ⟨hk.1.1.2, hk.1.2⟩)⟩, ⟨by (with_reducible repeat (first | apply Kd.R_alloc | apply Kd.R_drewN | apply Kd.R_drew)); exact Kd.R_mono HO335.out (fun _ hk => ⟨hk.1.1.2, hk.1.2⟩)⟩, ⟨by (with_reducible repeat (first | apply Kd.R_alloc | apply Kd.R_drewN | apply Kd.R_drew)); exact Kd.R_mono HO338.out (fun _ hk => ⟨hk.1.1.2, hk.1.2⟩)⟩, ⟨by (with_reducible repeat (first | refine blk_drewN ?_ _ | refine blk_drew ?_ | refine blk_alloc ?_ _)); exact BK340.out⟩, ⟨by repeat (first | (with_reducible first | exact HB.out | apply below_alloc | apply pw_below_drewN | apply below_drew1 | refine below_set ?_ GE340.out) | exact HB.out)⟩⟩
              · replace c23 := Bool.eq_false_iff.mpr c23
                subst c23
                have H1 : (if (t341.length : Int) = 0 then (steelyardlaw05_DigitsTell.j1 kj3 l0 t329 t332 t333 false t336 t339) else (steelyardlaw05_DigitsTell.j1 kj3 l0 t329 t332 t333 true t336 t339)) = some r := by rw [if_neg (show ¬ (false = true) by decide)] at H; exact H
                clear H
                have H := H1
                clear H1
                by_cases c30 : (t341.length : Int) = 0
                · rw [if_pos c30] at H
                  have c30b0 : ((t341.length : Int) == 0) = true := beq_iff_eq.mpr c30
                  have c30b1 : ((t341.length : Int) != 0) = false := bne_eq_false_iff_eq.mpr c30
                  clear c30
                  have H' := Aside0.mk H
                  clear H
                  obtain ⟨Ao31, co31, eo31⟩ := Kd.R_slice HO344.out
                  subst eo31
                  go_wp2
                  go_meet
                  case rel => exact ⟨_, (false), (by first | rfl | (simp; done) | (simp [*]; done)), H', ⟨by have := HJ3.out; first | omega | exact Nat.le_refl _⟩, ⟨by (with_reducible repeat (first | apply Kd.R_alloc | apply Kd.R_drewN | apply Kd.R_drew)); exact Kd.R_mono HO331.out (fun _ hk => ⟨hk.1.1.2, hk.1.2⟩)⟩, ⟨by (with_reducible repeat (first | apply Kd.R_alloc | apply Kd.R_drewN | apply Kd.R_drew)); exact Kd.R_mono HO335.out (fun _ hk => ⟨hk.1.1.2, hk.1.2⟩)⟩, ⟨by (with_reducible repeat (first | apply Kd.R_alloc | apply Kd.R_drewN | apply Kd.R_drew)); exact Kd.R_mono HO338.out (fun _ hk => ⟨hk.1.1.2, hk.1.2⟩)⟩, ⟨by (with_reducible repeat (first | refine blk_drewN ?_ _ | refine blk_drew ?_ | refine blk_alloc ?_ _)); exact BK340.out⟩, ⟨by repeat (first | (with_reducible first | exact HB.out | apply below_alloc | apply pw_below_drewN | apply below_drew1 | refine below_set ?_ GE340.out) | exact HB.out)⟩⟩
                · rw [if_neg c30] at H
                  have c30b0 : ((t341.length : Int) == 0) = false := beq_eq_false_iff_ne.mpr c30
                  have c30b1 : ((t341.length : Int) != 0) = true := bne_iff_ne.mpr c30
                  have c30b2 : ¬ (t341 = []) := fun h_ => c30 (by rw [h_]; rfl)
                  have H' := Aside0.mk H
                  clear H
                  obtain ⟨Ao32, co32, eo32⟩ := Kd.R_slice HO344.out
                  subst eo32
                  go_wp2
                  go_meet
                  case rel => exact ⟨_, (true), (by first | rfl | (simp; done) | (simp [*]; done)), H', ⟨by have := HJ3.out; first | omega | exact Nat.le_refl _⟩, ⟨by (with_reducible repeat (first | apply Kd.R_alloc | apply Kd.R_drewN | apply Kd.R_drew)); exact Kd.R_mono HO331.out (fun _ hk => ⟨hk.1.1.2, hk.1.2⟩)⟩, ⟨by (with_reducible repeat (first | apply Kd.R_alloc | apply Kd.R_drewN | apply Kd.R_drew)); exact Kd.R_mono HO335.out (fun _ hk => ⟨hk.1.1.2, hk.1.2⟩)⟩, ⟨by (with_reducible repeat (first | apply Kd.R_alloc | apply Kd.R_drewN | apply Kd.R_drew)); exact Kd.R_mono HO338.out (fun _ hk => ⟨hk.1.1.2, hk.1.2⟩)⟩, ⟨by (with_reducible repeat (first | refine blk_drewN ?_ _ | refine blk_drew ?_ | refine blk_alloc ?_ _)); exact BK340.out⟩, ⟨by repeat (first | (with_reducible first | exact HB.out | apply below_alloc | apply pw_below_drewN | apply below_drew1 | refine below_set ?_ GE340.out) | exact HB.out)⟩⟩
          · rw [if_neg c21] at H
            have c21b0 : decide (0 ≤ a2) = false := decide_eq_false c21
            clear c21
            (first | rw [c21b0] | rw [c21b1] | (simp only [i64_w, i32_w]; rw [c21b0]) | skip)
            by_cases c33 : (t342 != false) = true
            · rw [if_pos c33] at H
              have c33b0 : (t342 != false) = true := c33
              (try (have c33b1 : decide (t342 = false) = false := by simpa using c33))
              (try (have c33b2 : (t342 == false) = false := by simpa using c33))
              (try (have c33b3 : ¬ (t342 = false) := by simpa using c33))
              clear c33
              have H' := Aside0.mk H
              clear H
              go_wp2
              go_meet
              case rel => exact ⟨_, (true), (by first | rfl | (simp; done) | (simp [*]; done)), H', ⟨by have := HJ3.out; first | omega | exact Nat.le_refl _⟩, ⟨by (with_reducible repeat (first | apply Kd.R_alloc | apply Kd.R_drewN | apply Kd.R_drew)); exact Kd.R_mono HO331.out (fun _ hk => ⟨hk.1.1.2, hk.1.2⟩)⟩, ⟨by (with_reducible repeat (first | apply Kd.R_alloc | apply Kd.R_drewN | apply Kd.R_drew)); exact Kd.R_mono HO335.out (fun _ hk => ⟨hk.1.1.2, hk.1.2⟩)⟩, ⟨by (with_reducible repeat (first | apply Kd.R_alloc | apply Kd.R_drewN | apply Kd.R_drew)); exact Kd.R_mono HO338.out (fun _ hk => ⟨hk.1.1.2, hk.1.2⟩)⟩, ⟨by (with_reducible repeat (first | refine blk_drewN ?_ _ | refine blk_drew ?_ | refine blk_alloc ?_ _)); exact BK340.out⟩, ⟨by repeat (first | (with_reducible first | exact HB.out | apply below_alloc | apply pw_below_drewN | apply below_drew1 | refine below_set ?_ GE340.out) | exact HB.out)⟩⟩
            · rw [if_neg c33] at H
              have c33b0 : (t342 != false) = false := by simpa using c33
              (try (have c33b1 : decide (t342 = false) = true := by simpa using c33))
              (try (have c33b2 : (t342 == false) = true := by simpa using c33))
              clear c33
              by_cases c34 : t342 = true
              · subst c34
                have H1 : (if a2 ≤ 600 then ((steelyardref05_Ten.f kj3 a2).bind fun t349 => ((steelyardkeep_Nat.f kj3 t341 t349).bind fun t352 => (steelyardlaw05_DigitsTell.j1 kj3 l0 t329 t332 t333 (!t352) t336 t339))) else (steelyardlaw05_DigitsTell.j1 kj3 l0 t329 t332 t333 false t336 t339)) = some r := by rw [if_pos rfl] at H; exact H
                clear H
                have H := H1
                clear H1
                by_cases c35 : a2 ≤ 600
                · rw [if_pos c35] at H
                  have c35b0 : decide (a2 ≤ 600) = true := decide_eq_true c35
                  clear c35
                  replace H := Option.bind_eq_some_iff.mp H
                  obtain ⟨t349, A360, H⟩ := H
                  replace H : ((steelyardkeep_Nat.f kj3 t341 t349).bind fun t352 => (steelyardlaw05_DigitsTell.j1 kj3 l0 t329 t332 t333 (!t352) t336 t339)) = some r := H
                  have A36 := Aside0.mk A360
                  clear A360
                  replace H := Option.bind_eq_some_iff.mp H
                  obtain ⟨t352, A370, H⟩ := H
                  replace H : (steelyardlaw05_DigitsTell.j1 kj3 l0 t329 t332 t333 (!t352) t336 t339) = some r := H
                  have A37 := Aside0.mk A370
                  clear A370
                  have H' := Aside0.mk H
                  clear H
                  go_wp2_with (first | (go_at_call 13; (with_reducible refine (steelyardref05_Ten.calls kj3 a2 t349 _ A36.out).mono ?_); clear A36; rintro e w38 ⟨v350, rfl, ho0, hb⟩; have n0_ := Aside0.mk (Kd.R_elder' (by (with_reducible repeat (first | apply Kd.R_alloc | apply Kd.R_drewN | apply Kd.R_drew)); exact HO331.out) (Kd.R_base ho0) hb); have n1_ := Aside0.mk (Kd.R_elder' (by (with_reducible repeat (first | apply Kd.R_alloc | apply Kd.R_drewN | apply Kd.R_drew)); exact HO335.out) (Kd.R_base ho0) hb); have n2_ := Aside0.mk (Kd.R_elder' (by (with_reducible repeat (first | apply Kd.R_alloc | apply Kd.R_drewN | apply Kd.R_drew)); exact HO338.out) (Kd.R_base ho0) hb); have n3_ := Aside0.mk (Kd.R_elder' (by (with_reducible repeat (first | apply Kd.R_alloc | apply Kd.R_drewN | apply Kd.R_drew)); exact HO344.out) (Kd.R_base ho0) hb); have n4_ := Aside0.mk (Kd.R_lower (Kd.R_new' (Kd.R_new' (Kd.R_new' (Kd.R_new' ho0 (Kd.R_lt (by (with_reducible repeat (first | apply Kd.R_alloc | apply Kd.R_drewN | apply Kd.R_drew)); exact HO331.out))) (Kd.R_lt (by (with_reducible repeat (first | apply Kd.R_alloc | apply Kd.R_drewN | apply Kd.R_drew)); exact HO335.out))) (Kd.R_lt (by (with_reducible repeat (first | apply Kd.R_alloc | apply Kd.R_drewN | apply Kd.R_drew)); exact HO338.out))) (Kd.R_lt (by (with_reducible repeat (first | apply Kd.R_alloc | apply Kd.R_drewN | apply Kd.R_drew)); exact HO344.out))) (below_size (by repeat (first | (with_reducible first | exact HB.out | apply below_alloc | apply pw_below_drewN | apply below_drew1 | refine below_set ?_ GE340.out) | exact HB.out)))); have n5_ := Aside0.mk (blk_below (g := gb340) (o := .cells #[.slice Ao18 t336.length co18, .bool t339] 29 (0, 0)) (by (with_reducible repeat (first | refine blk_drewN ?_ _ | refine blk_drew ?_ | refine blk_alloc ?_ _)); exact BK340.out) hb); have n6_ := Aside0.mk (below_step (by repeat (first | (with_reducible first | exact HB.out | apply below_alloc | apply pw_below_drewN | apply below_drew1 | refine below_set ?_ GE340.out) | exact HB.out)) hb); clear HO331; clear HO335; clear HO338; clear HO344; clear BK340; clear HB; have HO331 := n0_; have HO335 := n1_; have HO338 := n2_; have HO344 := n3_; have HO351 := n4_; have BK340 := n5_; have HB := n6_; clear n0_ n1_ n2_ n3_ n4_ n5_ n6_; (try clear hb); (try clear hb2); (try clear hk); (try clear hi); (try clear ho0); obtain ⟨Ao39, co39, eo39⟩ := Kd.R_slice HO344.out; subst eo39; obtain ⟨Ao40, co40, eo40⟩ := Kd.R_slice HO351.out; subst eo40) | (go_at_call 12; (with_reducible refine (steelyardkeep_Nat.calls kj3 _ _ t341 _ _ t349 t352 _ ?side1 ?side2 ?side3 ?side4 A37.out).mono ?_); (case side1 => repeat (first | exact (Kd.R_reads' HO344.out).2.2 | (with_reducible refine Kd.C_alloc ?_ _) | (with_reducible refine Kd.C_drewN ?_ _) | (with_reducible refine Kd.C_drew ?_))); (case side2 => exact (Kd.R_reads' HO344.out).2.1); (case side3 => repeat (first | exact (Kd.R_reads' HO351.out).2.2 | (with_reducible refine Kd.C_alloc ?_ _) | (with_reducible refine Kd.C_drewN ?_ _) | (with_reducible refine Kd.C_drew ?_))); (case side4 => exact (Kd.R_reads' HO351.out).2.1); clear A37; rintro e w' ⟨rfl, ⟨nd, rfl⟩⟩))
                  go_meet
                  case rel => exact ⟨_, (!t352), (by first | rfl | (simp; done) | (simp [*]; done)), H', ⟨by have := HJ3.out; first | omega | exact Nat.le_refl _⟩, ⟨by (with_reducible repeat (first | apply Kd.R_alloc | apply Kd.R_drewN | apply Kd.R_drew)); exact Kd.R_mono HO331.out (fun _ hk => ⟨hk.1.1.1.2, hk.1.1.2⟩)⟩, ⟨by (with_reducible repeat (first | apply Kd.R_alloc | apply Kd.R_drewN | apply Kd.R_drew)); exact Kd.R_mono HO335.out (fun _ hk => ⟨hk.1.1.1.2, hk.1.1.2⟩)⟩, ⟨by (with_reducible repeat (first | apply Kd.R_alloc | apply Kd.R_drewN | apply Kd.R_drew)); exact Kd.R_mono HO338.out (fun _ hk => ⟨hk.1.1.1.2, hk.1.1.2⟩)⟩, ⟨by (with_reducible repeat (first | refine blk_drewN ?_ _ | refine blk_drew ?_ | refine blk_alloc ?_ _)); exact BK340.out⟩, ⟨by repeat (first | (with_reducible first | exact HB.out | apply below_alloc | apply pw_below_drewN | apply below_drew1 | refine below_set ?_ GE340.out) | exact HB.out)⟩⟩
                · rw [if_neg c35] at H
                  have c35b0 : decide (a2 ≤ 600) = false := decide_eq_false c35
                  clear c35
                  have H' := Aside0.mk H
                  clear H
                  go_wp2
                  go_meet
                  case rel => exact ⟨_, (false), (by first | rfl | (simp; done) | (simp [*]; done)), H', ⟨by have := HJ3.out; first | omega | exact Nat.le_refl _⟩, ⟨by (with_reducible repeat (first | apply Kd.R_alloc | apply Kd.R_drewN | apply Kd.R_drew)); exact Kd.R_mono HO331.out (fun _ hk => ⟨hk.1.1.2, hk.1.2⟩)⟩, ⟨by (with_reducible repeat (first | apply Kd.R_alloc | apply Kd.R_drewN | apply Kd.R_drew)); exact Kd.R_mono HO335.out (fun _ hk => ⟨hk.1.1.2, hk.1.2⟩)⟩, ⟨by (with_reducible repeat (first | apply Kd.R_alloc | apply Kd.R_drewN | apply Kd.R_drew)); exact Kd.R_mono HO338.out (fun _ hk => ⟨hk.1.1.2, hk.1.2⟩)⟩, ⟨by (with_reducible repeat (first | refine blk_drewN ?_ _ | refine blk_drew ?_ | refine blk_alloc ?_ _)); exact BK340.out⟩, ⟨by repeat (first | (with_reducible first | exact HB.out | apply below_alloc | apply pw_below_drewN | apply below_drew1 | refine below_set ?_ GE340.out) | exact HB.out)⟩⟩
              · replace c34 := Bool.eq_false_iff.mpr c34
                subst c34
                have H1 : (if (t341.length : Int) = 0 then (steelyardlaw05_DigitsTell.j1 kj3 l0 t329 t332 t333 false t336 t339) else (steelyardlaw05_DigitsTell.j1 kj3 l0 t329 t332 t333 true t336 t339)) = some r := by rw [if_neg (show ¬ (false = true) by decide)] at H; exact H
                clear H
                have H := H1
                clear H1
                by_cases c41 : (t341.length : Int) = 0
                · rw [if_pos c41] at H
                  have c41b0 : ((t341.length : Int) == 0) = true := beq_iff_eq.mpr c41
                  have c41b1 : ((t341.length : Int) != 0) = false := bne_eq_false_iff_eq.mpr c41
                  clear c41
                  have H' := Aside0.mk H
                  clear H
                  obtain ⟨Ao42, co42, eo42⟩ := Kd.R_slice HO344.out
                  subst eo42
                  go_wp2
                  go_meet
                  case rel => exact ⟨_, (false), (by first | rfl | (simp; done) | (simp [*]; done)), H', ⟨by have := HJ3.out; first | omega | exact Nat.le_refl _⟩, ⟨by (with_reducible repeat (first | apply Kd.R_alloc | apply Kd.R_drewN | apply Kd.R_drew)); exact Kd.R_mono HO331.out (fun _ hk => ⟨hk.1.1.2, hk.1.2⟩)⟩, ⟨by (with_reducible repeat (first | apply Kd.R_alloc | apply Kd.R_drewN | apply Kd.R_drew)); exact Kd.R_mono HO335.out (fun _ hk => ⟨hk.1.1.2, hk.1.2⟩)⟩, ⟨by (with_reducible repeat (first | apply Kd.R_alloc | apply Kd.R_drewN | apply Kd.R_drew)); exact Kd.R_mono HO338.out (fun _ hk => ⟨hk.1.1.2, hk.1.2⟩)⟩, ⟨by (with_reducible repeat (first | refine blk_drewN ?_ _ | refine blk_drew ?_ | refine blk_alloc ?_ _)); exact BK340.out⟩, ⟨by repeat (first | (with_reducible first | exact HB.out | apply below_alloc | apply pw_below_drewN | apply below_drew1 | refine below_set ?_ GE340.out) | exact HB.out)⟩⟩
                · rw [if_neg c41] at H
                  have c41b0 : ((t341.length : Int) == 0) = false := beq_eq_false_iff_ne.mpr c41
                  have c41b1 : ((t341.length : Int) != 0) = true := bne_iff_ne.mpr c41
                  have c41b2 : ¬ (t341 = []) := fun h_ => c41 (by rw [h_]; rfl)
                  have H' := Aside0.mk H
                  clear H
                  obtain ⟨Ao43, co43, eo43⟩ := Kd.R_slice HO344.out
                  subst eo43
                  go_wp2
                  go_meet
                  case rel => exact ⟨_, (true), (by first | rfl | (simp; done) | (simp [*]; done)), H', ⟨by have := HJ3.out; first | omega | exact Nat.le_refl _⟩, ⟨by (with_reducible repeat (first | apply Kd.R_alloc | apply Kd.R_drewN | apply Kd.R_drew)); exact Kd.R_mono HO331.out (fun _ hk => ⟨hk.1.1.2, hk.1.2⟩)⟩, ⟨by (with_reducible repeat (first | apply Kd.R_alloc | apply Kd.R_drewN | apply Kd.R_drew)); exact Kd.R_mono HO335.out (fun _ hk => ⟨hk.1.1.2, hk.1.2⟩)⟩, ⟨by (with_reducible repeat (first | apply Kd.R_alloc | apply Kd.R_drewN | apply Kd.R_drew)); exact Kd.R_mono HO338.out (fun _ hk => ⟨hk.1.1.2, hk.1.2⟩)⟩, ⟨by (with_reducible repeat (first | refine blk_drewN ?_ _ | refine blk_drew ?_ | refine blk_alloc ?_ _)); exact BK340.out⟩, ⟨by repeat (first | (with_reducible first | exact HB.out | apply below_alloc | apply pw_below_drewN | apply below_drew1 | refine below_set ?_ GE340.out) | exact HB.out)⟩⟩
        case rest =>
          clear HC13
          try clear c1
          try clear c2
          try clear p2
          try clear c3
          try clear c4
          try clear c5
          try clear c5b0
          try clear c5b1
          try clear c6
          try clear c7
          try clear c8
          try clear c9
          try clear c10
          try clear c11
          try clear c21
          try clear c21b0
          try clear c21b1
          try clear c22
          try clear c22b0
          try clear c22b1
          try clear c22b2
          try clear c23
          try clear c24
          try clear c24b0
          try clear c30
          try clear c30b0
          try clear c30b1
          try clear c30b2
          try clear c33
          try clear c33b0
          try clear c33b1
          try clear c33b2
          try clear c34
          try clear c35
          try clear c35b0
          try clear c41
          try clear c41b0
          try clear c41b1
          try clear c41b2
          try clear hcz19_0
          try clear hcz19_1
          try clear hfz19_0
          try clear hfz19_1
          try clear p2
          obtain ⟨kq, x66_12, rfl, HA, HJ12, HO_7, HO_8, HO_341000, BK340, HB⟩ := hcut
          cases kq with
          | zero => exact absurd HA.out (by simp [steelyardlaw05_DigitsTell.j1])
          | succ kj12 =>
            have H := HA.out
            clear HA
            simp only [steelyardlaw05_DigitsTell.j1] at H
            by_cases c44 : x66_12 = true
            · subst c44
              have H1 : (none) = some r := by rw [if_pos rfl] at H; exact H
              clear H
              have H := H1
              clear H1
              exact absurd H (by simp)
            · replace c44 := Bool.eq_false_iff.mpr c44
              subst c44
              have H1 : ((digits_Text.f kj12 t329).bind fun t353 => ((steelyardref05_Text.f kj12 l0).bind fun t354 => (if t353.toList = t354.toList then ((steelyardkeep_Nat.f kj12 t332 t336).bind fun t355 => (if t355 = true then (if (t333 == t339) = true then ((steelyardkeep_Nat.f kj12 t329 l0).bind fun t356 => (if t356 = true then ((steelyardlaw05_wakes.f kj12).bind fun t357 => (some t357)) else (none))) else (none)) else (none))) else (none)))) = some r := by rw [if_neg (show ¬ (false = true) by decide)] at H; exact H
              clear H
              have H := H1
              clear H1
              replace H := Option.bind_eq_some_iff.mp H
              obtain ⟨t353, A450, H⟩ := H
              replace H : ((steelyardref05_Text.f kj12 l0).bind fun t354 => (if t353.toList = t354.toList then ((steelyardkeep_Nat.f kj12 t332 t336).bind fun t355 => (if t355 = true then (if (t333 == t339) = true then ((steelyardkeep_Nat.f kj12 t329 l0).bind fun t356 => (if t356 = true then ((steelyardlaw05_wakes.f kj12).bind fun t357 => (some t357)) else (none))) else (none)) else (none))) else (none))) = some r := H
              have A45 := Aside0.mk A450
              clear A450
              replace H := Option.bind_eq_some_iff.mp H
              obtain ⟨t354, A460, H⟩ := H
              replace H : (if t353.toList = t354.toList then ((steelyardkeep_Nat.f kj12 t332 t336).bind fun t355 => (if t355 = true then (if (t333 == t339) = true then ((steelyardkeep_Nat.f kj12 t329 l0).bind fun t356 => (if t356 = true then ((steelyardlaw05_wakes.f kj12).bind fun t357 => (some t357)) else (none))) else (none)) else (none))) else (none)) = some r := H
              have A46 := Aside0.mk A460
              clear A460
              by_cases c47 : t353.toList = t354.toList
              · rw [if_pos c47] at H
                have c47b0 : (t353.toList == t354.toList) = true := beq_iff_eq.mpr c47
                have c47b1 : (t353.toList != t354.toList) = false := bne_eq_false_iff_eq.mpr c47
                clear c47
                replace H := Option.bind_eq_some_iff.mp H
                obtain ⟨t355, A480, H⟩ := H
                replace H : (if t355 = true then (if (t333 == t339) = true then ((steelyardkeep_Nat.f kj12 t329 l0).bind fun t356 => (if t356 = true then ((steelyardlaw05_wakes.f kj12).bind fun t357 => (some t357)) else (none))) else (none)) else (none)) = some r := H
                have A48 := Aside0.mk A480
                clear A480
                by_cases c49 : t355 = true
                · subst c49
                  have H1 : (if (t333 == t339) = true then ((steelyardkeep_Nat.f kj12 t329 l0).bind fun t356 => (if t356 = true then ((steelyardlaw05_wakes.f kj12).bind fun t357 => (some t357)) else (none))) else (none)) = some r := by rw [if_pos rfl] at H; exact H
                  clear H
                  have H := H1
                  clear H1
                  by_cases c50 : (t333 == t339) = true
                  · rw [if_pos c50] at H
                    have c50b0 : (t333 == t339) = true := c50
                    (try (have c50b1 : decide (t333 = t339) = true := by simpa using c50))
                    (try (have c50b2 : (t333 == t339) = true := by simpa using c50))
                    clear c50
                    replace H := Option.bind_eq_some_iff.mp H
                    obtain ⟨t356, A510, H⟩ := H
                    replace H : (if t356 = true then ((steelyardlaw05_wakes.f kj12).bind fun t357 => (some t357)) else (none)) = some r := H
                    have A51 := Aside0.mk A510
                    clear A510
                    by_cases c52 : t356 = true
                    · subst c52
                      have H1 : ((steelyardlaw05_wakes.f kj12).bind fun t357 => (some t357)) = some r := by rw [if_pos rfl] at H; exact H
                      clear H
                      have H := H1
                      clear H1
                      replace H := Option.bind_eq_some_iff.mp H
                      obtain ⟨t357, A530, H⟩ := H
                      replace H : (some t357) = some r := H
                      have A53 := Aside0.mk A530
                      clear A530
                      obtain rfl := Option.some.inj H
                      obtain ⟨Ao54, co54, eo54⟩ := Kd.R_slice HO_7.out
                      subst eo54
                      go_wp2_with (first | ((with_reducible refine gate_callee (f := 14) rfl ?_); refine goesL_ (some 68) rfl rfl Tryd.func14 (by kernel_rfl) rfl #[.slice Ao54 t329.length co54] rfl (by (try simp only [List.map_toArray, List.map_cons, List.map_nil]); first | done | rfl | (simp only [List.length_drop, List.length_take]; rfl)) ?_; (with_reducible refine (digits_Text.calls kj12 _ _ t329 t353 _ ?side1 ?side2 ?side3 A45.out).mono ?_); (case side1 => repeat (first | exact (Kd.R_reads' HO_7.out).2.2 | (with_reducible refine Kd.C_alloc ?_ _) | (with_reducible refine Kd.C_drewN ?_ _) | (with_reducible refine Kd.C_drew ?_))); (case side2 => exact (Kd.R_reads' HO_7.out).2.1); (case side3 => repeat (first | exact (Kd.C_below HRT0.out HB.out) | (with_reducible refine Kd.C_alloc ?_ _) | (with_reducible refine Kd.C_drewN ?_ _) | (with_reducible refine Kd.C_drew ?_))); rintro e w55 ⟨rfl, hb⟩; refine ⟨_, rfl, ?_⟩; have n0_ := Aside0.mk (Kd.R_below (by (with_reducible repeat (first | apply Kd.R_alloc | apply Kd.R_drewN | apply Kd.R_drew)); exact HO_7.out) hb); have n1_ := Aside0.mk (Kd.R_below (by (with_reducible repeat (first | apply Kd.R_alloc | apply Kd.R_drewN | apply Kd.R_drew)); exact HO_8.out) hb); have n2_ := Aside0.mk (Kd.R_below (by (with_reducible repeat (first | apply Kd.R_alloc | apply Kd.R_drewN | apply Kd.R_drew)); exact HO_341000.out) hb); have n3_ := Aside0.mk (blk_below (g := gb340) (o := .cells #[.slice Ao18 t336.length co18, .bool t339] 29 (0, 0)) (by (with_reducible repeat (first | refine blk_drewN ?_ _ | refine blk_drew ?_ | refine blk_alloc ?_ _)); exact BK340.out) hb); have n4_ := Aside0.mk (below_step (by repeat (first | (with_reducible first | exact HB.out | apply below_alloc | apply pw_below_drewN | apply below_drew1 | refine below_set ?_ GE340.out) | exact HB.out)) hb); clear HO_7; clear HO_8; clear HO_341000; clear BK340; clear HB; have HO_7 := n0_; have HO_8 := n1_; have HO_341000 := n2_; have BK340 := n3_; have HB := n4_; clear n0_ n1_ n2_ n3_ n4_; (try clear hb); (try clear hb2); (try clear hk); (try clear hi)) | ((with_reducible refine gate_callee (f := 15) rfl ?_); refine goesL_ (some 70) rfl rfl Tryd.func15 (by kernel_rfl) rfl #[.slice A0 l0.length c0] rfl (by (try simp only [List.map_toArray, List.map_cons, List.map_nil]); first | done | rfl | (simp only [List.length_drop, List.length_take]; rfl)) ?_; (with_reducible refine (steelyardref05_Text.calls kj12 _ _ l0 t354 _ ?side1 ?side2 A46.out).mono ?_); (case side1 => repeat (first | exact (Kd.C_below HR0.out HB.out) | (with_reducible refine Kd.C_alloc ?_ _) | (with_reducible refine Kd.C_drewN ?_ _) | (with_reducible refine Kd.C_drew ?_))); (case side2 => exact HC0.out); rintro e w56 ⟨rfl, hb⟩; refine ⟨_, rfl, ?_⟩; have n0_ := Aside0.mk (Kd.R_below (by (with_reducible repeat (first | apply Kd.R_alloc | apply Kd.R_drewN | apply Kd.R_drew)); exact HO_7.out) hb); have n1_ := Aside0.mk (Kd.R_below (by (with_reducible repeat (first | apply Kd.R_alloc | apply Kd.R_drewN | apply Kd.R_drew)); exact HO_8.out) hb); have n2_ := Aside0.mk (Kd.R_below (by (with_reducible repeat (first | apply Kd.R_alloc | apply Kd.R_drewN | apply Kd.R_drew)); exact HO_341000.out) hb); have n3_ := Aside0.mk (blk_below (g := gb340) (o := .cells #[.slice Ao18 t336.length co18, .bool t339] 29 (0, 0)) (by (with_reducible repeat (first | refine blk_drewN ?_ _ | refine blk_drew ?_ | refine blk_alloc ?_ _)); exact BK340.out) hb); have n4_ := Aside0.mk (below_step (by repeat (first | (with_reducible first | exact HB.out | apply below_alloc | apply pw_below_drewN | apply below_drew1 | refine below_set ?_ GE340.out) | exact HB.out)) hb); clear HO_7; clear HO_8; clear HO_341000; clear BK340; clear HB; have HO_7 := n0_; have HO_8 := n1_; have HO_341000 := n2_; have BK340 := n3_; have HB := n4_; clear n0_ n1_ n2_ n3_ n4_; (try clear hb); (try clear hb2); (try clear hk); (try clear hi); have hcz57_0 : w56.cell? ⟨gb340, 0, none⟩ = some (.slice Ao18 t336.length co18) := (blk_cell BK340.out 0).trans rfl; have hcz57_1 : w56.cell? ⟨gb340, 1, none⟩ = some (.bool t339) := (blk_cell BK340.out 1).trans rfl; have hfz57_0 := blk_frozen BK340.out 0; have hfz57_1 := blk_frozen BK340.out 1; obtain ⟨Ao58, co58, eo58⟩ := Kd.R_slice HO_8.out; subst eo58) | (go_at_call 12; (with_reducible refine (steelyardkeep_Nat.calls kj12 _ _ t332 _ _ t336 true _ ?side1 ?side2 ?side3 ?side4 A48.out).mono ?_); (case side1 => repeat (first | exact (Kd.R_reads' HO_8.out).2.2 | (with_reducible refine Kd.C_alloc ?_ _) | (with_reducible refine Kd.C_drewN ?_ _) | (with_reducible refine Kd.C_drew ?_))); (case side2 => exact (Kd.R_reads' HO_8.out).2.1); (case side3 => repeat (first | exact (Kd.R_reads' HO_341000.out).2.2 | (with_reducible refine Kd.C_alloc ?_ _) | (with_reducible refine Kd.C_drewN ?_ _) | (with_reducible refine Kd.C_drew ?_))); (case side4 => exact (Kd.R_reads' HO_341000.out).2.1); clear A48; rintro e w' ⟨rfl, ⟨nd, rfl⟩⟩) | (go_at_call 12; (with_reducible refine (steelyardkeep_Nat.calls kj12 _ _ t329 _ _ l0 true _ ?side1 ?side2 ?side3 ?side4 A51.out).mono ?_); (case side1 => repeat (first | exact (Kd.R_reads' HO_7.out).2.2 | (with_reducible refine Kd.C_alloc ?_ _) | (with_reducible refine Kd.C_drewN ?_ _) | (with_reducible refine Kd.C_drew ?_))); (case side2 => exact (Kd.R_reads' HO_7.out).2.1); (case side3 => repeat (first | exact (Kd.C_below HR0.out (by repeat (first | (with_reducible first | exact HB.out | apply below_alloc | apply pw_below_drewN | apply below_drew1 | refine below_set ?_ GE340.out) | exact HB.out))) | (with_reducible refine Kd.C_alloc ?_ _) | (with_reducible refine Kd.C_drewN ?_ _) | (with_reducible refine Kd.C_drew ?_))); (case side4 => exact HC0.out); clear A51; rintro e w' ⟨rfl, ⟨nd, rfl⟩⟩) | (go_at_call 7; (with_reducible refine (steelyardlaw05_wakes.calls kj12  t357 _ ?side1 A53.out).mono ?_); (case side1 => repeat (first | exact (Kd.C_below HRT0.out (by repeat (first | (with_reducible first | exact HB.out | apply below_alloc | apply pw_below_drewN | apply below_drew1 | refine below_set ?_ GE340.out) | exact HB.out))) | (with_reducible refine Kd.C_alloc ?_ _) | (with_reducible refine Kd.C_drewN ?_ _) | (with_reducible refine Kd.C_drew ?_))); clear A53; rintro e w59 ⟨rfl, hb⟩; have n0_ := Aside0.mk (Kd.R_below (by (with_reducible repeat (first | apply Kd.R_alloc | apply Kd.R_drewN | apply Kd.R_drew)); exact HO_7.out) hb); have n1_ := Aside0.mk (Kd.R_below (by (with_reducible repeat (first | apply Kd.R_alloc | apply Kd.R_drewN | apply Kd.R_drew)); exact HO_8.out) hb); have n2_ := Aside0.mk (Kd.R_below (by (with_reducible repeat (first | apply Kd.R_alloc | apply Kd.R_drewN | apply Kd.R_drew)); exact HO_341000.out) hb); have n3_ := Aside0.mk (blk_below (g := gb340) (o := .cells #[.slice Ao18 t336.length co18, .bool t339] 29 (0, 0)) (by (with_reducible repeat (first | refine blk_drewN ?_ _ | refine blk_drew ?_ | refine blk_alloc ?_ _)); exact BK340.out) hb); have n4_ := Aside0.mk (below_step (by repeat (first | (with_reducible first | exact HB.out | apply below_alloc | apply pw_below_drewN | apply below_drew1 | refine below_set ?_ GE340.out) | exact HB.out)) hb); clear HO_7; clear HO_8; clear HO_341000; clear BK340; clear HB; have HO_7 := n0_; have HO_8 := n1_; have HO_341000 := n2_; have BK340 := n3_; have HB := n4_; clear n0_ n1_ n2_ n3_ n4_; (try clear hb); (try clear hb2); (try clear hk); (try clear hi)))
                      go_ret
                      exact ⟨by first | rfl | (simp [errW_none, errW_some] <;> rfl) | (simp [*, errW_none, errW_some] <;> rfl), by repeat (first | (with_reducible first | exact HB.out | apply below_alloc | apply pw_below_drewN | apply below_drew1 | refine below_set ?_ GE340.out) | exact HB.out)⟩
                    · replace c52 := Bool.eq_false_iff.mpr c52
                      subst c52
                      have H1 : (none) = some r := by rw [if_neg (show ¬ (false = true) by decide)] at H; exact H
                      clear H
                      have H := H1
                      clear H1
                      exact absurd H (by simp)
                  · rw [if_neg c50] at H
                    exact absurd H (by simp)
                · replace c49 := Bool.eq_false_iff.mpr c49
                  subst c49
                  have H1 : (none) = some r := by rw [if_neg (show ¬ (false = true) by decide)] at H; exact H
                  clear H
                  have H := H1
                  clear H1
                  exact absurd H (by simp)
              · rw [if_neg c47] at H
                exact absurd H (by simp)
def steelyardlaw05_DigitsTell.Pure : Prop := ∀ (l0 : List Int) (a1 : ByteArray) (a2 : Int), l0.length ≤ maxLen → l0.length * 4 ≤ 140737488351232 → (∀ x ∈ l0, (Lit.int .u32 x).wf = true) → a1.size ≤ 140737488351232 → (Lit.int .i64 a2).wf = true → ∃ k, steelyardlaw05_DigitsTell.f k l0 a1 a2 = some true
theorem steelyardlaw05_DigitsTell.walk (P : steelyardlaw05_DigitsTell.Pure) (a0 : Option Addr) (len0 cap0 : Nat) (z0 : List Int) (a1 : ByteArray) (a2 : Int) (w : World) (w0 : (a0 = none ∧ len0 = 0 ∧ cap0 = 0 ∧ z0 = []) ∨ ∃ x, a0 = some x ∧ len0 ≤ cap0 ∧ cap0 ≤ maxLen ∧ z0.length = cap0 ∧ (∀ i, i < z0.length → w.cell? (x.add i) = some (.int .u32 (z0.getD i 0))) ∧ ∀ n ∈ z0, (Lit.int .u32 n).wf = true) (y0 : len0 * 4 ≤ 140737488351232) (w1 : a1.size ≤ 140737488351232) (w2 : (Lit.int .i64 a2).wf = true) (hrT0 : Kd.C (Kd.int .u32) w (some ⟨0, 0, none⟩) tab0_.length tab0_) :
    Calls Tryd.prog 3 #[.slice a0 len0 cap0, .string a1, .int .i64 a2] w fun e w' => e = .returned (.bool true) ∧ Below w.heap.size w w' := by
  obtain ⟨l0, rfl, hr0, hm0, hw0, hc0⟩ := ReadsInt.ofRowC w0
  obtain ⟨k, h⟩ := P l0 a1 a2 hm0 y0 hw0 w1 w2
  refine (steelyardlaw05_DigitsTell.calls k _ _ l0 a1 a2 true w (Kd.C_of_reads (d := (0 : Int)) (h1 := fun _ => rfl) hr0) hc0 hrT0 h).mono ?_
  rintro e w' ⟨rfl, hd⟩
  exact ⟨rfl, hd⟩

end Go.Proofs.YtijjnjdfdoaafaaDoor.P

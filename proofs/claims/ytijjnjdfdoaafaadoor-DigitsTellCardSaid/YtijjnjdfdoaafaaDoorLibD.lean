/- What the document's answer for layer 1 (reference 01) comes to. -/
import Derived.Test.YtijjnjdfdoaafaaDoorLibN
import Derived.Test.YtijjnjdfdoaafaaDoorPxsteelyardref01
set_option linter.unusedVariables false
set_option linter.unusedSimpArgs false
namespace Go.Proofs.YtijjnjdfdoaafaaDoor.Lib
open Go.RowKit Go.Proofs.YtijjnjdfdoaafaaDoorW.PrintWords Go.Proofs.YtijjnjdfdoaafaaDoorW.PrintMore Go.Proofs.YtijjnjdfdoaafaaDoor.P

theorem rat_spec {l : List Int} (h : W l) (i : Nat) : steelyardref01_at.f l (i : Int) = some (l.getD i 0) := by
  unfold steelyardref01_at.f
  by_cases hi : i < l.length
  · have g := W_get h i
    rw [if_neg (by omega), if_pos (by omega), if_pos (by omega), rd_nat, wu64 (by omega) (by omega)]
  · rw [if_pos (by omega), List.getD_eq_getElem?_getD, List.getElem?_eq_none (by omega)]
    rfl
theorem rTrim_spec {l : List Int} (hG : G l) : Ev (fun k => steelyardref01_Trim.f k l) (L (V l)) := by
  obtain ⟨h, hl⟩ := hG
  have hU := U_le h
  have eU : (L (V l)).length = U l := rfl
  have key : ∀ d i : Nat, i = U l + d → i ≤ l.length → Ev (fun k => steelyardref01_Trim.l0 k l (i : Int)) (L (V l)) := by
    intro d
    induction d with
    | zero =>
      intro i hi hil
      obtain rfl : i = U l := by omega
      refine Ev.succ ?_
      simp only [steelyardref01_Trim.l0, Option.bind_some, List.nil_append, List.length_nil, Int.toNat_natCast, List.length_take, take_U h]
      by_cases h0 : U l = 0
      · exact Ev.ifn (by omega) (Ev.ifp (by omega) (Ev.ifp (by omega) (Ev.ifp (by omega) (Ev.now _))))
      · rw [w64_pred (by omega) (by omega), rd_nat]
        exact Ev.ifp (by omega) (Ev.ifp (by omega) (Ev.ifp (by omega) (Ev.ifn (U_last h h0) (Ev.ifp (by omega) (Ev.ifp (by omega) (Ev.ifp (by omega) (Ev.now _)))))))
    | succ d ih =>
      intro i hi hil
      refine Ev.succ ?_
      simp only [steelyardref01_Trim.l0]
      rw [w64_pred (by omega) (by omega), rd_nat]
      exact Ev.ifp (by omega) (Ev.ifp (by omega) (Ev.ifp (by omega) (Ev.ifp (tail_zero h (by omega)) (ih (i - 1) (by omega) (by omega)))))
  exact key (l.length - U l) l.length (by omega) (Nat.le_refl _)
section
variable {m p n x y : Nat} {l a b : List Int}
theorem rTrim_to (sa : S m a) (hm : m ≤ 1000000) (h : V a = n) : Ev (fun k => steelyardref01_Trim.f k a) (L n) := h ▸ rTrim_spec (sa.g hm)
theorem W_snoc {l : List Int} {x : Int} (h : W l) (h0 : 0 ≤ x) (h1 : x < 4294967296) : W (l ++ [x]) := by
  rw [W_app, W_cons]
  exact ⟨h, ⟨h0, h1⟩, W_nil⟩
theorem V_snoc (l : List Int) (x : Int) : V (l ++ [x]) = V l + 4294967296 ^ l.length * x.toNat := by
  rw [V_app, V_cons, V_nil, Nat.mul_zero, Nat.add_zero]
theorem rAdd_to (sa : S m a) (sb : S m b) (hm : m < 1000000) (h : V a + V b = n) : Ev (fun k => steelyardref01_Add.f k a b) (L n) := by
  have hla := sa.2
  have hlb := sb.2
  -- from round i on, with what is left
  have key : ∀ d i (out : List Int) (c : Nat), m + 2 ≤ i + d → i ≤ m + 1 → out.length = i → W out → c ≤ 1 → V out + 4294967296 ^ i * c = V (a.take i) + V (b.take i) → (m + 1 = i → c = 0) →
      Ev (fun k => steelyardref01_Add.l0 k a b out (c : Int) (i : Int)) (L n) := by
    intro d
    induction d with
    | zero => intro i out c h1 h2; omega
    | succ d ih =>
      intro i out c h1 h2 ho hw hc hv hlast
      have stop : ¬ i < a.length → ¬ i < b.length → c = 0 → Ev (fun k => steelyardref01_Add.j1 k a b out (c : Int) (i : Int) false) (L n) := by
        intro n1 n2 n3
        refine Ev.succ ?_
        simp only [steelyardref01_Add.j1]
        refine Ev.ifn (by decide) (Ev.bind (rTrim_to (m := 1000000) ⟨hw, by omega⟩ (by omega) ?_) (Ev.now _))
        rw [V_take_all a (by omega), V_take_all b (by omega), n3, Nat.mul_zero, Nat.add_zero] at hv
        rw [hv, h]
      have more : i ≤ m → Ev (fun k => steelyardref01_Add.j1 k a b out (c : Int) (i : Int) true) (L n) := by
        intro him
        refine Ev.succ ?_
        simp only [steelyardref01_Add.j1, rat_spec sa.1, rat_spec sb.1, Option.bind_some]
        have g1 := W_get sa.1 i
        have g2 := W_get sb.1 i
        obtain ⟨x, hx⟩ := Int.eq_ofNat_of_zero_le g1.1
        obtain ⟨y, hy⟩ := Int.eq_ofNat_of_zero_le g2.1
        rw [hx, hy, ← Int.natCast_add, wu64 (x := ((x + y : Nat) : Int)) (by omega) (by omega), ← Int.natCast_add, wu64 (x := ((c + (x + y) : Nat) : Int)) (by omega) (by omega), w64_succ (by omega),
          show ((c + (x + y) : Nat) : Int) / 4294967296 = (((c + (x + y)) / 4294967296 : Nat) : Int) by omega, show ((c + (x + y) : Nat) : Int) % 4294967296 = (((c + (x + y)) % 4294967296 : Nat) : Int) by omega]
        refine Ev.ifp trivial (Ev.ifp (by omega) ?_)
        have hv' : V (out ++ [(((c + (x + y)) % 4294967296 : Nat) : Int)]) + 4294967296 ^ (i + 1) * ((c + (x + y)) / 4294967296) = V (a.take (i + 1)) + V (b.take (i + 1)) := by
          rw [V_snoc, V_take_succ, V_take_succ, ho, hx, hy, Int.toNat_natCast, Int.toNat_natCast, Int.toNat_natCast, Nat.pow_succ]
          generalize 4294967296 ^ i = q at *
          have e2 : 4294967296 * ((c + (x + y)) / 4294967296) + (c + (x + y)) % 4294967296 = c + (x + y) := Nat.div_add_mod _ _
          have e3 := congrArg (q * ·) e2
          simp only [Nat.mul_add] at e3
          rw [Nat.mul_assoc q 4294967296]
          omega
        refine ih (i + 1) _ _ (by omega) (by omega) (by rw [List.length_append, ho]; rfl) (W_snoc hw (by omega) (by omega)) (by omega) hv' (fun e => ?_)
        rw [V_take_all a (by omega), V_take_all b (by omega), h] at hv'
        refine carry_zero hv' ?_
        rw [← h, ← e]
        exact lt_add sa.v sb.v (by omega)
      refine Ev.succ ?_
      simp only [steelyardref01_Add.l0]
      by_cases n1 : i < a.length
      · exact Ev.ifp (by omega) (more (by omega))
      · refine Ev.ifn (by omega) ?_
        by_cases n2 : i < b.length
        · exact Ev.ifp (by omega) (more (by omega))
        · refine Ev.ifn (by omega) ?_
          by_cases n3 : c = 0
          · rw [decide_eq_false (by omega)]
            exact stop n1 n2 n3
          · rw [decide_eq_true (by omega)]
            exact more (by omega)
  unfold steelyardref01_Add.f
  exact key (m + 2) 0 [] 0 (by omega) (by omega) rfl W_nil (by omega) (by simp [V]) (fun _ => rfl)
end
end Go.Proofs.YtijjnjdfdoaafaaDoor.Lib

/- A text cut in two: the first part's number, times ten to how many digits the second has, and that one's. -/
import Derived.Test.YtijjnjdfdoaafaaDoorLibW5
import Derived.Test.YtijjnjdfdoaafaaDoorPxlawDigitsParts
set_option linter.unusedVariables false
set_option linter.unusedSimpArgs false
namespace Go.Proofs.YtijjnjdfdoaafaaDoor.Pure
open Go.RowKit Go.Proofs.YtijjnjdfdoaafaaDoor.P Go.Proofs.YtijjnjdfdoaafaaDoorW.PrintWords Go.Proofs.YtijjnjdfdoaafaaDoorW.PrintMore Go.Proofs.YtijjnjdfdoaafaaDoor.Lib
theorem tx_len_Bp {n m : Nat} (h : n < Bp m) (hm : 0 < m) : (tx n).length ≤ 10 * m := by
  refine tx_len_le (Nat.lt_of_lt_of_le h ?_) (by omega)
  unfold Bp
  rw [Nat.pow_mul]
  exact Nat.pow_le_pow_left (by decide) _
theorem not_Dg {l : List Int} {x : Int} (hx : x ∈ l) (h : x < 48) : ¬ Dg l := fun hd => by have := hd x hx; omega
theorem DigitsParts : steelyardlaw05_DigitsParts.Pure := by
  intro a b _ _ ha _ _ hb
  apply Ev.rounds
  have wk : Ev (fun k => steelyardlaw05_DigitsParts.j0 k a b true) true := Ev.succ (by simp only [steelyardlaw05_DigitsParts.j0]; exact Ev.ifp trivial (Ev.bind wakes5 (Ev.now _)))
  unfold steelyardlaw05_DigitsParts.f
  by_cases h1 : (a.length : Int) > 30
  · exact Ev.ifp h1 wk
  refine Ev.ifn h1 ?_
  by_cases h2 : (b.length : Int) > 30
  · rw [decide_eq_true h2]; exact wk
  rw [decide_eq_false h2]
  have sa : S 30 a := S_of (wf_u32 ha) h1
  have sb : S 30 b := S_of (wf_u32 hb) h2
  have la := tx_len_Bp sa.v (by omega)
  have lb := tx_len_Bp sb.v (by omega)
  have pa := tx_pos (V a)
  have pb := tx_pos (V b)
  have za : (T (V a)).size = (tx (V a)).length := by rw [ns_size, ns_T]
  have zb : (T (V b)).size = (tx (V b)).length := by rw [ns_size, ns_T]
  have n1 : ns (T (V a) ++ T (V b)) = tx (V a) ++ tx (V b) := by rw [ns_append, ns_T, ns_T]
  have n2 : ns ((T (V a) ++ (⟨#[46]⟩ : ByteArray)) ++ T (V b)) = (tx (V a) ++ [46]) ++ tx (V b) := by rw [ns_append, ns_append, ns_T, ns_T]; rfl
  have n3 : ns ((⟨#[45]⟩ : ByteArray) ++ T (V a)) = [45] ++ tx (V a) := by rw [ns_append, ns_T]; rfl
  have z2 : (T (V a) ++ (⟨#[46]⟩ : ByteArray)).size = (tx (V a)).length + 1 := by rw [ns_size, ns_append, ns_T, List.length_append]; rfl
  have lt10 : 10 ^ (tx (V b)).length < Bp 251 := ten_Bp (m := 250) (by omega)
  have lm : V a * 10 ^ (tx (V b)).length < Bp 281 := lt_mul sa.v lt10 (by omega)
  refine Ev.succ ?_
  simp only [steelyardlaw05_DigitsParts.j0]
  refine Ev.ifn (by decide) (Ev.bind (Text_to sa (by omega) rfl) (Ev.bind (Text_to sb (by omega) rfl) ?_))
  rw [za, zb, z2]
  refine Ev.ifp (by omega) (Ev.bind (Parse_to (n := V a * 10 ^ (tx (V b)).length + V b) (by rw [n1, List.length_append]; omega) (by rw [n1, List.length_append]; omega) (by rw [n1]; exact Dg_app.2 ⟨Dg_tx _, Dg_tx _⟩) (by rw [n1, pv_app, pv_tx, pv_tx])) ?_)
  refine Ev.bind (Ten_to (n := (tx (V b)).length) (by omega)) (Ev.ifp (by omega) (Ev.ifp (by omega) ?_))
  refine Ev.bind (Parse_no (.inr (.inr (by rw [n2]; exact not_Dg (x := 46) (by simp) (by omega))))) (Ev.ifp (by omega) ?_)
  refine Ev.bind (Parse_no (.inr (.inr (by rw [n3]; exact not_Dg (x := 45) (by simp) (by omega))))) (Ev.ifp rfl (Ev.ifp rfl (Ev.ifn (by decide) (Ev.ifn (by decide) ?_))))
  refine Ev.bind (Mul_to sa (S_L lt10) (by omega) (n := V a * 10 ^ (tx (V b)).length) (by rw [V_L])) ?_
  refine Ev.bind (Add_to (S_L lm) (sb.up (by omega)) (by omega) (n := V a * 10 ^ (tx (V b)).length + V b) (by rw [V_L])) ?_
  exact Ev.bind (keep_to (m := 282) (S_L (lt_add lm (lt_up sb.v (by omega)) (by omega))) (by omega) rfl) (Ev.ifp rfl (Ev.bind wakes5 (Ev.now _)))
end Go.Proofs.YtijjnjdfdoaafaaDoor.Pure

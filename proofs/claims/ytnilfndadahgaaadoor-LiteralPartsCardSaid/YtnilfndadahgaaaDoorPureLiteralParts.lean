/- A literal's number is its whole part's and its places', each by itself: of any two numbers of 32 bits. -/
import Derived.Test.YtnilfndadahgaaaDoorMl
import Derived.Test.YtnilfndadahgaaaDoorPxlawLiteralParts
set_option linter.unusedVariables false
set_option linter.unusedSimpArgs false
namespace Go.Proofs.YtnilfndadahgaaaDoor.Pure
open Go.RowKit Go.Proofs.YtnilfndadahgaaaDoor.P Go.Proofs.YtnilfndadahgaaaDoorW.PrintWords Go.Proofs.YtnilfndadahgaaaDoorW.PrintMore Go.Proofs.YtnilfndadahgaaaDoor.Lib
theorem LiteralParts : steelyardlaw09_LiteralParts.Pure := by
  intro u v hu hv
  apply Ev.rounds
  have bu := bounds_u32 hu
  have bv := bounds_u32 hv
  obtain ⟨a, rfl⟩ := Int.eq_ofNat_of_zero_le (show 0 ≤ u by omega)
  obtain ⟨b, rfl⟩ := Int.eq_ofNat_of_zero_le (show 0 ≤ v by omega)
  have la := T_len (n := a) (by omega)
  have lb := T_len (n := b) (by omega)
  have za : (T a).size ≤ 10 := by rw [size_ns (ns_T a)]; exact la
  have zb : (T b).size ≤ 10 := by rw [size_ns (ns_T b)]; exact lb
  unfold steelyardlaw09_LiteralParts.f
  rw [w64 (x := (a : Int)) (by omega) (by omega), w64 (x := (b : Int)) (by omega) (by omega)]
  refine Ev.bind (dec_to a (by omega)) (Ev.bind (dec_to b (by omega)) ?_)
  have n1 : ns ((T a ++ (⟨#[46]⟩ : ByteArray)) ++ T b) = tx a ++ 46 :: tx b := by rw [ns_append, ns_append, ns_T, ns_T, show ns (⟨#[46]⟩ : ByteArray) = [46] from rfl, List.append_assoc]; rfl
  have n3 : ns ((⟨#[48, 46]⟩ : ByteArray) ++ T b) = [48] ++ 46 :: tx b := by rw [ns_append, ns_T]; rfl
  have n4 : ns (T a ++ (⟨#[101, 48]⟩ : ByteArray)) = tx a ++ 101 :: [48] := by rw [ns_append, ns_T]; rfl
  have d0 : Dg [48] := Dg_all (by decide)
  have p1 : LitP (ns ((T a ++ (⟨#[46]⟩ : ByteArray)) ++ T b)) (tx a) (tx b) [] false := by rw [n1]; exact lit_point (Dg_tx a) (tx_ne a) (Dg_tx b) (tx_ne b)
  have p2 : LitP (ns (T a)) (tx a) [] [] false := by rw [ns_T]; exact lit_whole (Dg_tx a) (tx_ne a)
  have p3 : LitP (ns ((⟨#[48, 46]⟩ : ByteArray) ++ T b)) [48] (tx b) [] false := by rw [n3]; exact lit_point d0 (by decide) (Dg_tx b) (tx_ne b)
  have p4 : LitP (ns (T a ++ (⟨#[101, 48]⟩ : ByteArray))) (tx a) [] [48] false := by rw [n4]; exact lit_exp (Dg_tx a) (tx_ne a) d0 (by decide) (by decide)
  have l1 : (ns ((T a ++ (⟨#[46]⟩ : ByteArray)) ++ T b)).length ≤ 400 := by rw [n1]; simp only [List.length_append, List.length_cons]; omega
  have l2 : (ns (T a)).length ≤ 400 := by rw [ns_T]; omega
  have l3 : (ns ((⟨#[48, 46]⟩ : ByteArray) ++ T b)).length ≤ 400 := by rw [n3]; simp only [List.length_append, List.length_cons, List.length_nil]; omega
  have l4 : (ns (T a ++ (⟨#[101, 48]⟩ : ByteArray))).length ≤ 400 := by rw [n4]; simp only [List.length_append, List.length_cons, List.length_nil]; omega
  have k1 : ek false [] (tx b) = -((tx b).length : Int) := by unfold ek; rw [if_neg (by decide), pv_nil]; omega
  have e1 := Lit_to p1 l1 (pvx a b) k1
  have e2 := Lit_to p2 l2 (n := a) (k := ((0 : Nat) : Int)) (by rw [List.append_nil, pv_tx]) rfl
  have e3 := Lit_to p3 l3 (n := b) (k := -((tx b).length : Int)) (by rw [pv_app, pv_tx]; simp [pv]) k1
  have e4 := Lit_to p4 l4 (n := a) (k := ((0 : Nat) : Int)) (by rw [List.append_nil, pv_tx]) rfl
  have hP : 10 ^ (tx b).length ≤ 10 ^ 10 := Nat.pow_le_pow_right (by omega) lb
  have ht : a * 10 ^ (tx b).length + b < 79228162514264337593543950336 := by
    have : a * 10 ^ (tx b).length ≤ 4294967296 * 10 ^ 10 := Nat.mul_le_mul (by omega) hP
    omega
  have s1 := Qs_tenq (k := -((tx b).length : Int)) ht (by omega) (by omega)
  have s2 := Qs_tenq (n := a) (k := ((0 : Nat) : Int)) (by omega) (by omega) (by omega)
  have s3 := Qs_tenq (n := b) (k := -((tx b).length : Int)) (by omega) (by omega) (by omega)
  have hsum : tenq a ((0 : Nat) : Int) + tenq b (-((tx b).length : Int)) = tenq (a * 10 ^ (tx b).length + b) (-((tx b).length : Int)) := by
    rw [tenq_pos, tenq_neg, tenq_neg, Rat.natCast_add, Rat.natCast_mul, ten_cast, Rat.pow_zero]
    have := ten_rat_ne (tx b).length
    grind
  rw [qr_yes s1] at e1
  rw [qr_yes s2] at e2 e4
  rw [qr_yes s3] at e3
  have hby : mkRat (a : Int) 1 = tenq a ((0 : Nat) : Int) := by unfold tenq; rw [if_neg (by decide)]; simp
  refine Ev.ifp (by omega) (Ev.ifp (by rw [ByteArray.size_append]; show (T a).size + 1 + _ ≤ _; omega) (Ev.bind e1 (Ev.bind e2 (Ev.ifp (by omega) (Ev.bind e3 ?_)))))
  have hA := qAdd_to s2 s3 hsum
  rw [qr_yes s1] at hA
  refine Ev.bind hA (Ev.ifp (by omega) (Ev.bind e4 (Ev.ifp rfl (Ev.ifp rfl (Ev.ifp rfl (Ev.ifp rfl (Ev.ifp rfl ?_)))))))
  refine Ev.bind (keepQ_to s1 rfl) (Ev.ifp rfl (Ev.bind (By_to (u := (a : Int)) (n := 1) (by omega) (by omega) (by omega) (by omega) hby s2) (Ev.bind (keepQ_to s2 rfl) (Ev.ifp rfl (Ev.bind (keepQ_to s2 rfl) (Ev.ifp rfl (Ev.bind wakes9 (Ev.now _))))))))
end Go.Proofs.YtnilfndadahgaaaDoor.Pure

/- Noughts ahead, and behind a point's last digit, change no number; an exponent moves the point: of any two numbers of 32 bits. -/
import Derived.Test.YtnilfndadahgaaaDoorMl
import Derived.Test.YtnilfndadahgaaaDoorPxlawLiteralNoughts
set_option linter.unusedVariables false
set_option linter.unusedSimpArgs false
namespace Go.Proofs.YtnilfndadahgaaaDoor.Pure
open Go.RowKit Go.Proofs.YtnilfndadahgaaaDoor.P Go.Proofs.YtnilfndadahgaaaDoorW.PrintWords Go.Proofs.YtnilfndadahgaaaDoorW.PrintMore Go.Proofs.YtnilfndadahgaaaDoor.Lib
theorem pv_rep (z : Nat) (l : List Int) : pv (List.replicate z 48 ++ l) = pv l := by
  induction z with
  | zero => simp
  | succ z ih =>
    rw [List.replicate_succ, List.cons_append, show (48 : Int) :: (List.replicate z 48 ++ l) = [48] ++ (List.replicate z 48 ++ l) from rfl, pv_app, pv_one, ih]
    simp
theorem Dg_rep (z : Nat) : Dg (List.replicate z 48) := fun x hx => by
  obtain ⟨_, rfl⟩ := List.mem_replicate.1 hx
  decide
theorem Qten {j : Nat} (hj : j ≤ 30) : Qs (tenq 1 (j : Int)) := Qs_tenq (by omega) (by omega) (by omega)
section
variable {n m K : Nat} (hm : m ≤ 10) (hK : K ≤ 29)
theorem ten_step (j : Nat) : tenq 1 (j : Int) * ((10 : Int) : Rat) = tenq 1 ((j + 1 : Nat) : Int) := by
  rw [tenq_pos, tenq_pos, Rat.pow_succ, show ((10 : Int) : Rat) = 10 from rfl]
  grind
include hK in
theorem loop2 (hX : Qs (tenq n (-(m : Int)))) (hU : Qs (tenq n ((K : Int) - m))) (hD : Qs (tenq n (-((K + m : Nat) : Int)))) (hZ : Qs (tenq n ((0 : Nat) : Int))) : ∀ d j, K = j + d →
    Ev (fun k => steelyardlaw09_LiteralNoughts.l2 k (K : Int) 0 (j : Int) (cz (tenq n (-(m : Int))).num).1 (cz (tenq n (-(m : Int))).num).2 (L (tenq n (-(m : Int))).den)
      (cz (tenq n ((0 : Nat) : Int)).num).1 (cz (tenq n ((0 : Nat) : Int)).num).2 (L (tenq n ((0 : Nat) : Int)).den) (cz (tenq n ((K : Int) - m)).num).1 (cz (tenq n ((K : Int) - m)).num).2 (L (tenq n ((K : Int) - m)).den)
      (cz (tenq n (-((K + m : Nat) : Int))).num).1 (cz (tenq n (-((K + m : Nat) : Int))).num).2 (L (tenq n (-((K + m : Nat) : Int))).den) (cz (tenq n ((0 : Nat) : Int)).num).1 (cz (tenq n ((0 : Nat) : Int)).num).2 (L (tenq n ((0 : Nat) : Int)).den)
      (cz (tenq 1 (j : Int)).num).1 (cz (tenq 1 (j : Int)).num).2 (L (tenq 1 (j : Int)).den)) true := by
  intro d
  induction d with
  | zero =>
    intro j hj
    obtain rfl : K = j := by omega
    refine Ev.succ ?_
    simp only [steelyardlaw09_LiteralNoughts.l2]
    have e1 : tenq n (-(m : Int)) * tenq 1 (K : Int) = tenq n ((K : Int) - m) := by
      rw [tenq_neg, tenq_pos, tenq_gen]
      have := ten_rat_ne m
      grind
    have e2 : tenq n (-(m : Int)) / tenq 1 (K : Int) = tenq n (-((K + m : Nat) : Int)) := by
      rw [tenq_neg, tenq_pos, tenq_neg, rpow_add]
      have := ten_rat_ne m
      have := ten_rat_ne K
      grind
    have h0 : (tenq 1 (K : Int)).num ≠ 0 := fun e => by
      have h1 := Rat.num_eq_zero.1 e
      rw [tenq_pos] at h1
      have := ten_rat_ne K
      grind
    have h1 := qMul_to hX (Qten (j := K) (by omega)) e1
    have h2 := qDiv_to hX (Qten (j := K) (by omega)) h0 e2
    rw [qr_yes hU] at h1
    rw [qr_yes hD] at h2
    refine Ev.ifn (by omega) (Ev.bind h1 (Ev.bind h2 (Ev.ifp trivial (Ev.ifp rfl (Ev.ifp rfl ?_)))))
    exact Ev.bind (keepQ_to hZ rfl) (Ev.ifp rfl (Ev.bind (keepQ_to hU rfl) (Ev.ifp rfl (Ev.bind (keepQ_to hD rfl) (Ev.ifp rfl (Ev.bind wakes9 (Ev.now _)))))))
  | succ d ih =>
    intro j hj
    refine Ev.succ ?_
    simp only [steelyardlaw09_LiteralNoughts.l2]
    have h1 := qMul_to (Qten (j := j) (by omega)) (Qs_int (z := 10) (by decide)) (ten_step j)
    rw [qr_yes (Qten (by omega))] at h1
    refine Ev.ifp (by omega) (Ev.bind (qWhole_to (v := 10) (by omega) (by omega)) (Ev.bind h1 (Ev.ifp rfl ?_)))
    rw [w64_succ (by omega)]
    exact ih (j + 1) (by omega)
include hm hK in
theorem loop1 {b : Nat} (hb : (tx b).length = m) (hX : Qs (tenq n (-(m : Int)))) (hU : Qs (tenq n ((K : Int) - m))) (hD : Qs (tenq n (-((K + m : Nat) : Int)))) (hZ : Qs (tenq n ((0 : Nat) : Int))) : ∀ d j, m = j + d →
    Ev (fun k => steelyardlaw09_LiteralNoughts.l1 k (T b) (K : Int) (j : Int) (cz (tenq n (-(m : Int))).num).1 (cz (tenq n (-(m : Int))).num).2 (L (tenq n (-(m : Int))).den)
      (cz (tenq n ((0 : Nat) : Int)).num).1 (cz (tenq n ((0 : Nat) : Int)).num).2 (L (tenq n ((0 : Nat) : Int)).den) (cz (tenq n ((K : Int) - m)).num).1 (cz (tenq n ((K : Int) - m)).num).2 (L (tenq n ((K : Int) - m)).den)
      (cz (tenq n (-((K + m : Nat) : Int))).num).1 (cz (tenq n (-((K + m : Nat) : Int))).num).2 (L (tenq n (-((K + m : Nat) : Int))).den)
      (cz (tenq 1 (j : Int)).num).1 (cz (tenq 1 (j : Int)).num).2 (L (tenq 1 (j : Int)).den)) true := by
  have hz : (T b).size = m := by rw [size_ns (ns_T b)]; exact hb
  intro d
  induction d with
  | zero =>
    intro j hj
    obtain rfl : m = j := by omega
    refine Ev.succ ?_
    simp only [steelyardlaw09_LiteralNoughts.l1]
    have e1 : tenq n (-(m : Int)) * tenq 1 (m : Int) = tenq n ((0 : Nat) : Int) := by
      rw [tenq_neg, tenq_pos, tenq_pos, Rat.pow_zero]
      have := ten_rat_ne m
      grind
    have h1 := qMul_to hX (Qten (j := m) (by omega)) e1
    rw [qr_yes hZ] at h1
    refine Ev.ifn (by omega) (Ev.bind h1 (Ev.bind (qWhole_to (v := 1) (by omega) (by omega)) ?_))
    exact loop2 hK hX hU hD hZ K 0 (by omega)
  | succ d ih =>
    intro j hj
    refine Ev.succ ?_
    simp only [steelyardlaw09_LiteralNoughts.l1]
    have h1 := qMul_to (Qten (j := j) (by omega)) (Qs_int (z := 10) (by decide)) (ten_step j)
    rw [qr_yes (Qten (by omega))] at h1
    refine Ev.ifp (by omega) (Ev.bind (qWhole_to (v := 10) (by omega) (by omega)) (Ev.bind h1 (Ev.ifp rfl ?_)))
    rw [w64_succ (by omega)]
    exact ih (j + 1) (by omega)
end
theorem LiteralNoughts : steelyardlaw09_LiteralNoughts.Pure := by
  intro u v x0 x1 x2 hu hv h0 h1 h2
  apply Ev.rounds
  have bu := bounds_u32 hu
  have bv := bounds_u32 hv
  have b0 := bounds_u8 h0
  have b1 := bounds_u8 h1
  obtain ⟨a, rfl⟩ := Int.eq_ofNat_of_zero_le (show 0 ≤ u by omega)
  obtain ⟨b, rfl⟩ := Int.eq_ofNat_of_zero_le (show 0 ≤ v by omega)
  have la := T_len (n := a) (by omega)
  have lb := T_len (n := b) (by omega)
  have za : (T a).size = (tx a).length := size_ns (ns_T a)
  have zb : (T b).size = (tx b).length := size_ns (ns_T b)
  unfold steelyardlaw09_LiteralNoughts.f
  rw [w64 (x := (a : Int)) (by omega) (by omega), w64 (x := (b : Int)) (by omega) (by omega)]
  refine Ev.bind (dec_to a (by omega)) (Ev.bind (dec_to b (by omega)) ?_)
  obtain ⟨Z, hZ, hZ9⟩ : ∃ Z : Nat, Int.tmod (wrap64 x0) 9 = (Z : Int) ∧ Z ≤ 8 := ⟨(x0 % 9).toNat, by rw [w64 (by omega) (by omega), Int.tmod_eq_emod_of_nonneg (by omega)]; omega, by omega⟩
  obtain ⟨K, hK, hK29⟩ : ∃ K : Nat, Int.tmod (wrap64 x1) 30 = (K : Int) ∧ K ≤ 29 := ⟨(x1 % 30).toNat, by rw [w64 (by omega) (by omega), Int.tmod_eq_emod_of_nonneg (by omega)]; omega, by omega⟩
  -- behind the noughts
  have body : ∀ N : ByteArray, ns N = List.replicate Z 48 → Ev (fun k => steelyardlaw09_LiteralNoughts.l0 k (T a) (T b) N (Z : Int) x0 x1 x2) true := by
    intro N hN
    have zN : N.size = Z := by rw [size_ns hN, List.length_replicate]
    have lk : (tx K).length ≤ 3 := tx_len_le (show K < 10 ^ 3 by omega) (by omega)
    have zk : (T K).size = (tx K).length := size_ns (ns_T K)
    refine Ev.succ ?_
    simp only [steelyardlaw09_LiteralNoughts.l0]
    rw [hZ, hK]
    generalize hm' : (tx b).length = m at *
    have hP : 10 ^ m ≤ 10 ^ 10 := Nat.pow_le_pow_right (by omega) lb
    have hn0 : a * 10 ^ m + b < 42949672970000000000 := by
      have : a * 10 ^ m ≤ 4294967296 * 10 ^ 10 := Nat.mul_le_mul (by omega) hP
      omega
    generalize hn' : a * 10 ^ m + b = n at *
    have hn : n < 79228162514264337593543950336 := by omega
    have n1 : ns ((T a ++ (⟨#[46]⟩ : ByteArray)) ++ T b) = tx a ++ 46 :: tx b := by rw [ns_append, ns_append, ns_T, ns_T, show ns (⟨#[46]⟩ : ByteArray) = [46] from rfl, List.append_assoc]; rfl
    have n2 : ns ((((N ++ T a) ++ (⟨#[46]⟩ : ByteArray)) ++ T b) ++ N) = (List.replicate Z 48 ++ tx a) ++ 46 :: (tx b ++ List.replicate Z 48) := by
      rw [ns_append, ns_append, ns_append, ns_append, ns_T, ns_T, hN, show ns (⟨#[46]⟩ : ByteArray) = [46] from rfl]; simp
    have n3 : ns (T a ++ T b) = tx a ++ tx b := by rw [ns_append, ns_T, ns_T]
    have n4 : ns ((((T a ++ (⟨#[46]⟩ : ByteArray)) ++ T b) ++ (⟨#[101]⟩ : ByteArray)) ++ T K) = tx a ++ (46 :: tx b) ++ (101 :: (if false = true then 45 :: tx K else tx K)) := by
      rw [ns_append, ns_append, n1, ns_T, show ns (⟨#[101]⟩ : ByteArray) = [101] from rfl]; simp
    have n5 : ns ((((T a ++ (⟨#[46]⟩ : ByteArray)) ++ T b) ++ (⟨#[101, 45]⟩ : ByteArray)) ++ T K) = tx a ++ (46 :: tx b) ++ (101 :: (if true = true then 45 :: tx K else tx K)) := by
      rw [ns_append, ns_append, n1, ns_T, show ns (⟨#[101, 45]⟩ : ByteArray) = [101, 45] from rfl]; simp
    have p1 : LitP (ns ((T a ++ (⟨#[46]⟩ : ByteArray)) ++ T b)) (tx a) (tx b) [] false := by rw [n1]; exact lit_point (Dg_tx a) (tx_ne a) (Dg_tx b) (tx_ne b)
    have p2 : LitP (ns ((((N ++ T a) ++ (⟨#[46]⟩ : ByteArray)) ++ T b) ++ N)) (List.replicate Z 48 ++ tx a) (tx b ++ List.replicate Z 48) [] false := by
      rw [n2]; exact lit_point (Dg_app.2 ⟨Dg_rep Z, Dg_tx a⟩) (by simp [tx_ne]) (Dg_app.2 ⟨Dg_tx b, Dg_rep Z⟩) (by simp [tx_ne])
    have p3 : LitP (ns (T a ++ T b)) (tx a ++ tx b) [] [] false := by rw [n3]; exact lit_whole (Dg_app.2 ⟨Dg_tx a, Dg_tx b⟩) (by simp [tx_ne])
    have p4 := n4 ▸ lit_mk (sg := false) (Dg_tx a) (tx_ne a) (Dg_tx b) (tx_ne b) (Dg_tx K) (tx_ne K) lk
    have p5 := n5 ▸ lit_mk (sg := true) (Dg_tx a) (tx_ne a) (Dg_tx b) (tx_ne b) (Dg_tx K) (tx_ne K) lk
    have l1 : (ns ((T a ++ (⟨#[46]⟩ : ByteArray)) ++ T b)).length ≤ 400 := by rw [n1]; simp only [List.length_append, List.length_cons]; omega
    have l2 : (ns ((((N ++ T a) ++ (⟨#[46]⟩ : ByteArray)) ++ T b) ++ N)).length ≤ 400 := by rw [n2]; simp only [List.length_append, List.length_cons, List.length_replicate]; omega
    have l3 : (ns (T a ++ T b)).length ≤ 400 := by rw [n3]; simp only [List.length_append]; omega
    have l4 : (ns ((((T a ++ (⟨#[46]⟩ : ByteArray)) ++ T b) ++ (⟨#[101]⟩ : ByteArray)) ++ T K)).length ≤ 400 := by rw [n4, if_neg (by decide)]; simp only [List.length_append, List.length_cons]; omega
    have l5 : (ns ((((T a ++ (⟨#[46]⟩ : ByteArray)) ++ T b) ++ (⟨#[101, 45]⟩ : ByteArray)) ++ T K)).length ≤ 400 := by rw [n5, if_pos rfl]; simp only [List.length_append, List.length_cons]; omega
    have k1 : ek false [] (tx b) = -(m : Int) := by unfold ek; rw [if_neg (by decide), pv_nil, hm']; omega
    have k2 : ek false [] (tx b ++ List.replicate Z 48) = -((m + Z : Nat) : Int) := by unfold ek; rw [if_neg (by decide), pv_nil, List.length_append, List.length_replicate, hm']; omega
    have k4 : ek false (tx K) (tx b) = (K : Int) - m := by unfold ek; rw [if_neg (by decide), pv_tx, hm']
    have k5 : ek true (tx K) (tx b) = -((K + m : Nat) : Int) := by unfold ek; rw [if_pos rfl, pv_tx, hm']; omega
    have v1 : pv (tx a ++ tx b) = n := by rw [pvx, hm', hn']
    have v2 : pv ((List.replicate Z 48 ++ tx a) ++ (tx b ++ List.replicate Z 48)) = n * 10 ^ Z := by
      rw [List.append_assoc, pv_rep, ← List.append_assoc, pv_app, v1, List.length_replicate]
      have := pv_rep Z []
      rw [List.append_nil, pv_nil] at this
      rw [this, Nat.add_zero]
    have hZp : 10 ^ Z ≤ 10 ^ 8 := Nat.pow_le_pow_right (by omega) hZ9
    have hnz : n * 10 ^ Z < 79228162514264337593543950336 := by
      have : n * 10 ^ Z ≤ 42949672970000000000 * 10 ^ 8 := Nat.mul_le_mul (by omega) hZp
      omega
    have e1 := Lit_to p1 l1 v1 k1
    have e2 := Lit_to p2 l2 v2 k2
    have e3 := Lit_to p3 l3 (n := n) (k := ((0 : Nat) : Int)) (by rw [List.append_nil]; exact v1) rfl
    have e4 := Lit_to p4 l4 v1 k4
    have e5 := Lit_to p5 l5 v1 k5
    have q2 : tenq (n * 10 ^ Z) (-((m + Z : Nat) : Int)) = tenq n (-(m : Int)) := by
      rw [tenq_neg, tenq_neg, rpow_add, Rat.natCast_mul, ten_cast]
      have := ten_rat_ne m
      have := ten_rat_ne Z
      grind
    have sX := Qs_tenq (k := -(m : Int)) hn (by omega) (by omega)
    have sZ := Qs_tenq (k := ((0 : Nat) : Int)) hn (by omega) (by omega)
    have sU := Qs_tenq (k := (K : Int) - m) hn (by omega) (by omega)
    have sD := Qs_tenq (k := -((K + m : Nat) : Int)) hn (by omega) (by omega)
    rw [q2] at e2
    rw [qr_yes sX] at e1 e2
    rw [qr_yes sZ] at e3
    rw [qr_yes sU] at e4
    rw [qr_yes sD] at e5
    have s1 : ∀ (x y : ByteArray), (x ++ y).size = x.size + y.size := fun x y => ByteArray.size_append
    have c1 : (⟨#[46]⟩ : ByteArray).size = 1 := rfl
    have c2 : (⟨#[101]⟩ : ByteArray).size = 1 := rfl
    have c3 : (⟨#[101, 45]⟩ : ByteArray).size = 2 := rfl
    refine Ev.ifn (by omega) (Ev.ifp (by omega) (Ev.ifp (by simp only [s1, c1]; omega) (Ev.bind e1 ?_)))
    refine Ev.ifp (by omega) (Ev.ifp (by simp only [s1]; omega) (Ev.ifp (by simp only [s1, c1]; omega) (Ev.ifp (by simp only [s1, c1]; omega) (Ev.bind e2 ?_))))
    refine Ev.ifp (by omega) (Ev.bind e3 (Ev.ifp (by simp only [s1, c1]; omega) (Ev.bind (dec_to K (by omega)) (Ev.ifp (by simp only [s1, c1, c2]; omega) (Ev.bind e4 ?_)))))
    refine Ev.ifp (by simp only [s1, c1]; omega) (Ev.bind (dec_to K (by omega)) (Ev.ifp (by simp only [s1, c1, c3]; omega) (Ev.bind e5 ?_)))
    refine Ev.ifp rfl (Ev.ifp rfl (Ev.ifp rfl (Ev.ifp rfl (Ev.ifp rfl (Ev.bind (keepQ_to sX rfl) (Ev.succ ?_))))))
    simp only [steelyardlaw09_LiteralNoughts.j1]
    refine Ev.ifn (by decide) (Ev.bind (qWhole_to (v := 1) (by omega) (by omega)) ?_)
    exact loop1 lb hK29 hm' sX sU sD sZ m 0 (by omega)
  -- the noughts
  have loop : ∀ d i (N : ByteArray), Z = i + d → ns N = List.replicate i 48 → Ev (fun k => steelyardlaw09_LiteralNoughts.l0 k (T a) (T b) N (i : Int) x0 x1 x2) true := by
    intro d
    induction d with
    | zero =>
      intro i N hi hN
      obtain rfl : Z = i := by omega
      exact body N hN
    | succ d ih =>
      intro i N hi hN
      have zN : N.size = i := by rw [size_ns hN, List.length_replicate]
      refine Ev.succ ?_
      simp only [steelyardlaw09_LiteralNoughts.l0]
      rw [hZ]
      refine Ev.ifp (by omega) (Ev.ifp (by omega) ?_)
      rw [w64_succ (by omega)]
      refine ih (i + 1) _ (by omega) ?_
      rw [ns_append, hN, List.replicate_succ']; rfl
  exact loop Z 0 _ (by omega) rfl
end Go.Proofs.YtnilfndadahgaaaDoor.Pure

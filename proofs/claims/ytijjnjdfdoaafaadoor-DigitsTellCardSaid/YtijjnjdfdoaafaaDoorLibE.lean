/- What the document's answer for layer 2 (reference 02) comes to. -/
import Derived.Test.YtijjnjdfdoaafaaDoorLibM
import Derived.Test.YtijjnjdfdoaafaaDoorLibD
import Derived.Test.YtijjnjdfdoaafaaDoorPxsteelyardref02
set_option linter.unusedVariables false
set_option linter.unusedSimpArgs false
namespace Go.Proofs.YtijjnjdfdoaafaaDoor.Lib
open Go.RowKit Go.Proofs.YtijjnjdfdoaafaaDoorW.PrintWords Go.Proofs.YtijjnjdfdoaafaaDoorW.PrintMore Go.Proofs.YtijjnjdfdoaafaaDoor.P
section
variable {m p n x y : Nat} {l a b : List Int}
theorem rSmall_to (sa : S m a) (hm : m < 1000000) {v : Int} (h0 : 0 ≤ v) (h1 : v < 4294967296) (h : V a * v.toNat = n) : Ev (fun k => steelyardref02_Small.f k a v) (L n) := by
  have hla := sa.2
  obtain ⟨v, rfl⟩ := Int.eq_ofNat_of_zero_le h0
  rw [Int.toNat_natCast] at h
  have key : ∀ d i (out : List Int) (c : Nat), a.length = i + d → out.length = i → W out → c < 4294967296 → V out + 4294967296 ^ i * c = V (a.take i) * v →
      Ev (fun k => steelyardref02_Small.l0 k a (v : Int) out (c : Int) (i : Int)) (L n) := by
    intro d
    induction d with
    | zero =>
      intro i out c hi ho hw hc hv
      refine Ev.succ ?_
      simp only [steelyardref02_Small.l0]
      rw [show (c : Int) % 4294967296 = ((c : Nat) : Int) by omega]
      refine Ev.ifn (by omega) (Ev.ifp (by omega) (Ev.bind (rTrim_to (m := 1000000) ⟨W_snoc hw (by omega) (by omega), by simp; omega⟩ (by omega) ?_) (Ev.now _)))
      rw [V_snoc, ho, Int.toNat_natCast, hv, V_take_all a (by omega), h]
    | succ d ih =>
      intro i out c hi ho hw hc hv
      refine Ev.succ ?_
      simp only [steelyardref02_Small.l0, rd_nat]
      have g1 := W_get sa.1 i
      obtain ⟨x, hx⟩ := Int.eq_ofNat_of_zero_le g1.1
      have hp : x * v ≤ 4294967295 * 4294967295 := Nat.mul_le_mul (by omega) (by omega)
      rw [hx, wu64 (x := (x : Int)) (by omega) (by omega), wu64 (x := (v : Int)) (by omega) (by omega), ← Int.natCast_mul, wu64 (x := ((x * v : Nat) : Int)) (by omega) (by omega), ← Int.natCast_add, wu64 (x := ((c + x * v : Nat) : Int)) (by omega) (by omega), w64_succ (by omega),
        show ((c + x * v : Nat) : Int) / 4294967296 = (((c + x * v) / 4294967296 : Nat) : Int) by omega, show ((c + x * v : Nat) : Int) % 4294967296 = (((c + x * v) % 4294967296 : Nat) : Int) by omega]
      refine Ev.ifp (by omega) (Ev.ifp (by omega) (Ev.ifp (by omega) ?_))
      refine ih (i + 1) _ _ (by omega) (by rw [List.length_append, ho]; rfl) (W_snoc hw (by omega) (by omega)) (by omega) ?_
      rw [V_snoc, V_take_succ, ho, hx, Int.toNat_natCast, Int.toNat_natCast, Nat.pow_succ]
      generalize 4294967296 ^ i = q at *
      have e2 : 4294967296 * ((c + x * v) / 4294967296) + (c + x * v) % 4294967296 = c + x * v := Nat.div_add_mod _ _
      have e3 := congrArg (q * ·) e2
      simp only [Nat.mul_add] at e3
      rw [Nat.mul_assoc q 4294967296, Nat.add_mul, Nat.mul_assoc q x v]
      omega
  unfold steelyardref02_Small.f
  exact key a.length 0 [] 0 (by omega) rfl W_nil (by omega) (by simp [V])
theorem shl_u64 (x s : Nat) (hx : x < 4294967296) (hs : s < 32) : shl .u64 (x : Int) (s : Int) = ((x * 2 ^ s : Nat) : Int) := by
  have hp := pow_lt_32 hs
  have hb : x * 2 ^ s ≤ 4294967295 * 2147483648 := Nat.mul_le_mul (by omega) hp
  unfold shl
  rw [Int.toNat_natCast, Nat.min_eq_left (by show s ≤ 64; omega), show ((2 : Int) ^ s) = ((2 ^ s : Nat) : Int) by rw [Int.natCast_pow]; rfl, ← Int.natCast_mul]
  exact wu64 (by omega) (by omega)
theorem or_low (c h s : Nat) (hs : s < 32) (hc : c < 2 ^ s) (hh : h < 4294967296) : Go.bits .or .u64 (c : Int) ((h * 2 ^ s : Nat) : Int) = ((h * 2 ^ s + c : Nat) : Int) := by
  have hp := pow_lt_32 hs
  have hb : h * 2 ^ s ≤ 4294967295 * 2147483648 := Nat.mul_le_mul (by omega) hp
  have e := Nat.two_pow_add_eq_or_of_lt hc h
  generalize 2 ^ s = q at *
  rw [u64_or_nat _ _ (by omega) (by omega), Nat.or_comm, Nat.mul_comm h q, ← e]
end
end Go.Proofs.YtijjnjdfdoaafaaDoor.Lib

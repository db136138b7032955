/- A unit by itself is 1; to a power and that power's negative, too; blanks change nothing. -/
import Derived.Test.YtpchdjdochkjpaaGreatDoorMm
import Derived.Test.YtpchdjdochkjpaaGreatDoorPxlawUnitSelf
import Derived.OpenShut
set_option linter.unusedVariables false
set_option linter.unusedSimpArgs false
namespace Go.Proofs.YtpchdjdochkjpaaGreatDoor.Pure
open Go.RowKit Go.Proofs.YtpchdjdochkjpaaGreatDoor.P Go.Proofs.YtpchdjdochkjpaaGreatDoorW.PrintWords Go.Proofs.YtpchdjdochkjpaaGreatDoorW.PrintMore Go.Proofs.YtpchdjdochkjpaaGreatDoor.Lib
theorem tmod5 {n : Int} (hn : 0 ≤ n ∧ n ≤ 255) : Int.tmod (wrap64 n) 5 = ((n.toNat % 5 : Nat) : Int) := by
  obtain ⟨a, rfl⟩ := Int.eq_ofNat_of_zero_le hn.1
  have e : wrap64 (a : Int) = (a : Int) := by unfold wrap64; omega
  rw [e, Int.toNat_natCast]
  rfl
theorem UnitSelf : steelyardlaw12_UnitSelf.Pure := by
  intro s n hsz hn
  have hn := bounds_u8 hn
  apply Ev.rounds
  unfold steelyardlaw12_UnitSelf.f
  have wk : Ev (fun k => (steelyardlaw12_wakes.f k).bind fun z => some z) true := Ev.bind wakes_to (Ev.now _)
  by_cases h60 : (s.size : Int) > 60
  · exact Ev.ifp h60 wk
  refine Ev.ifn h60 (Ev.bind (rname_to (by omega)) ?_)
  have hl : (ns s).length = s.size := ns_len s
  obtain ⟨r, hr⟩ := Run.total (tv T92) ((ns s).length + 1) (ns s) 1 z7 false (by omega)
  by_cases hq : ¬ nameB (ns s) = true
  · exact Ev.bind (Parse_none (uParse_to Tk_T92 (by omega) hr)) (Ev.ifn hq wk)
  have hq := Classical.not_not.1 hq
  have hw := (nameB_iff _).1 hq
  cases hT : tv T92 (ns s) with
  | none =>
    refine Ev.bind (Parse_none (uParse_to Tk_T92 (by omega) (Run_none hw hT 1 z7 false))) (Ev.ifp hq (Ev.ifn (show ¬ (15 : Int) = 0 by decide) wk))
  | some x =>
    obtain ⟨q, d⟩ := x
    obtain ⟨ht, _⟩ := tv_some Tk_T92 hT
    obtain ⟨q', d', e, g, hp⟩ := T92_good ht
    have hT2 := tv_get (q := q') (d := d') (ht.trans (congrArg some e))
    rw [hT] at hT2
    obtain ⟨rfl, rfl⟩ := Prod.mk.inj (Option.some.inj hT2)
    have hk : n.toNat % 5 ≤ 4 := by omega
    generalize hkk : n.toNat % 5 = k at hk
    obtain ⟨p1, p2⟩ := hp k hk
    have u1 := uParse_to (s := s) Tk_T92 (by omega) (Run_name hw hT g)
    refine Ev.bind (Parse_none u1) (Ev.ifp hq (Ev.ifp rfl ?_))
    -- the digit
    generalize hW : strOfNums [(48 + (k : Int)) % 256] = W
    have nW : ns W = [48 + (k : Int)] := by
      rw [← hW, ns_strOf (fun x hx => by rw [List.mem_singleton.1 hx]; omega)]
      congr 1; omega
    have sW : W.size = 1 := by rw [ns_size, nW]; rfl
    refine Ev.bind (a := W) (Ev.const ?_) ?_
    · unfold steelyardlaw12_dec.f
      rw [tmod5 hn, hkk, hW]
    refine Ev.bind (qWhole_to (by omega) (by omega)) ?_
    have b47 : ns (⟨#[47]⟩ : ByteArray) = [47] := rfl
    have b94 : ns (⟨#[94]⟩ : ByteArray) = [94] := rfl
    have b42 : ns (⟨#[42]⟩ : ByteArray) = [42] := rfl
    have b45 : ns (⟨#[94, 45]⟩ : ByteArray) = [94, 45] := rfl
    have b32 : ns (⟨#[32, 32]⟩ : ByteArray) = [32, 32] := rfl
    have b49 : ns (⟨#[32, 94, 32, 49, 32]⟩ : ByteArray) = [32, 94, 32, 49, 32] := rfl
    -- by itself
    have n1 : ns ((s ++ (⟨#[47]⟩ : ByteArray)) ++ s) = ns s ++ 47 :: ns s := by rw [ns_append, ns_append, b47, List.append_assoc]; rfl
    have z1 : ((s ++ (⟨#[47]⟩ : ByteArray)) ++ s).size ≤ 200 := by rw [ns_size, n1, List.length_append, List.length_cons, hl]; omega
    have r1 := Run_self hw hT g
    rw [← n1] at r1
    have y1 : (s ++ (⟨#[47]⟩ : ByteArray)).size = s.size + 1 := by rw [ns_size, ns_append, b47, List.length_append, hl]; rfl
    refine Ev.ifp (by omega) (Ev.ifp (by rw [y1]; omega) (Ev.bind (uParse_to Tk_T92 z1 r1) ?_))
    -- to a power and its negative
    have n2 : ns ((((((s ++ (⟨#[94]⟩ : ByteArray)) ++ W) ++ (⟨#[42]⟩ : ByteArray)) ++ s) ++ (⟨#[94, 45]⟩ : ByteArray)) ++ W) = ns s ++ 94 :: (48 + (k : Int)) :: 42 :: (ns s ++ [94, 45, 48 + (k : Int)]) := by
      rw [ns_append, ns_append, ns_append, ns_append, ns_append, ns_append, b94, b42, b45, nW]
      simp only [List.append_assoc, List.cons_append, List.nil_append]
    have z2 : ((((((s ++ (⟨#[94]⟩ : ByteArray)) ++ W) ++ (⟨#[42]⟩ : ByteArray)) ++ s) ++ (⟨#[94, 45]⟩ : ByteArray)) ++ W).size ≤ 200 := by
      rw [ns_size, n2]
      simp only [List.length_append, List.length_cons, List.length_nil, hl]
      omega
    have r2 := Run_power hk hw hT g p1 p2
    rw [← n2] at r2
    have y2 : (s ++ (⟨#[94]⟩ : ByteArray)).size = s.size + 1 := by rw [ns_size, ns_append, b94, List.length_append, hl]; rfl
    have y3 : ((s ++ (⟨#[94]⟩ : ByteArray)) ++ W).size = s.size + 2 := by rw [ns_size, ns_append, List.length_append, ← ns_size, y2, nW]; rfl
    have y4 : (((s ++ (⟨#[94]⟩ : ByteArray)) ++ W) ++ (⟨#[42]⟩ : ByteArray)).size = s.size + 3 := by rw [ns_size, ns_append, List.length_append, ← ns_size, y3, b42]; rfl
    have y5 : ((((s ++ (⟨#[94]⟩ : ByteArray)) ++ W) ++ (⟨#[42]⟩ : ByteArray)) ++ s).size = s.size + 3 + s.size := by rw [ns_size, ns_append, List.length_append, ← ns_size, y4, hl]
    have y6 : (((((s ++ (⟨#[94]⟩ : ByteArray)) ++ W) ++ (⟨#[42]⟩ : ByteArray)) ++ s) ++ (⟨#[94, 45]⟩ : ByteArray)).size = s.size + 3 + s.size + 2 := by rw [ns_size, ns_append, List.length_append, ← ns_size, y5, b45]; rfl
    refine Ev.ifp (by omega) (Ev.ifp (by rw [y2, sW]; omega) (Ev.ifp (by rw [y3]; omega) (Ev.ifp (by rw [y4]; omega) (Ev.ifp (by rw [y5]; omega) (Ev.ifp (by rw [y6, sW]; omega) (Ev.bind (uParse_to Tk_T92 z2 r2) ?_))))))
    -- with blanks
    have n3 : ns (((⟨#[32, 32]⟩ : ByteArray) ++ s) ++ (⟨#[32, 94, 32, 49, 32]⟩ : ByteArray)) = 32 :: 32 :: (ns s ++ [32, 94, 32, 49, 32]) := by
      rw [ns_append, ns_append, b32, b49]
      simp only [List.append_assoc, List.cons_append, List.nil_append]
    have z3 : (((⟨#[32, 32]⟩ : ByteArray) ++ s) ++ (⟨#[32, 94, 32, 49, 32]⟩ : ByteArray)).size ≤ 200 := by
      rw [ns_size, n3]
      simp only [List.length_append, List.length_cons, List.length_nil, hl]
      omega
    have r3 := Run_blank hw hT g
    rw [← n3] at r3
    have y7 : ((⟨#[32, 32]⟩ : ByteArray) ++ s).size = 2 + s.size := by rw [ns_size, ns_append, b32, List.length_append, hl]; rfl
    refine Ev.ifp (by omega) (Ev.ifp (by rw [y7]; omega) (Ev.bind (uParse_to Tk_T92 z3 r3) ?_))
    refine Ev.ifp rfl (Ev.ifp rfl (Ev.ifp rfl ?_))
    have k1 : Ev (fun k => steelyardkeep_Unit.f k (cu 1 z7) ⟨(cz 1).1, (cz 1).2, L 1, ⟨0, 0, 0, 0, 0, 0, 0⟩⟩) true := keepUnit_to Qs_one z7
    refine Ev.bind k1 (Ev.ifp rfl (Ev.bind k1 (Ev.ifp rfl (Ev.bind (keepUnit_to g.1.1 d) (Ev.ifp rfl wk)))))
end Go.Proofs.YtpchdjdochkjpaaGreatDoor.Pure

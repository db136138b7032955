-- The kit's words, printed by its print.sh; the theorems that this seat does not need are left out by a program of this session (wip/tool/shake.py). Lean checks it.
/- Words of this session's own for the builtin copy: a row of the call's own, laid over with what another slice reads as. Nothing here speaks of a program. -/
import Derived.Test.YtejllhfmhcccaaaDoorWWords
import Derived.Test.YtejllhfmhcccaaaDoorWMore
import Derived.Laws.CopyRow
import Derived.Laws.IdiomCopy
import Derived.Lib.BufferWrite
set_option linter.unusedVariables false
set_option linter.unusedSimpArgs false
namespace Go.Proofs.YtejllhfmhcccaaaDoorW.PrintWords
open Go.RowKit Go.Proofs.YtejllhfmhcccaaaDoorW.PrintMore

/-- xs with ys laid over it from place N on, as far as xs goes. -/
def cpy {α : Type} (xs : List α) (N : Nat) (ys : List α) : List α := xs.take N ++ (ys.take (xs.length - N) ++ xs.drop (N + ys.length))
theorem cpy_length {α : Type} (xs : List α) (N : Nat) (ys : List α) (h : N ≤ xs.length) : (cpy xs N ys).length = xs.length := by
  simp only [cpy, List.length_append, List.length_take, List.length_drop]; omega
theorem nmin (a b : Nat) : (a ≤ b ∧ Nat.min a b = a) ∨ (b < a ∧ Nat.min a b = b) := by
  have e : Nat.min a b = min a b := rfl
  rw [e]
  omega
theorem u32_u8 (x : Int) : IntKind.u32.wrap (IntKind.u8.wrap x) = x % 256 := by rw [IntKind.wrap_u32, IntKind.wrap_u8]; omega
theorem u64_u8 (x : Int) : IntKind.u64.wrap (IntKind.u8.wrap x) = x % 256 := by rw [IntKind.wrap_u64, IntKind.wrap_u8]; omega
theorem cpy_none {α : Type} (xs : List α) (N : Nat) (ys : List α) (h : N ≤ xs.length) (h0 : Nat.min ys.length (xs.length - N) = 0) : cpy xs N ys = xs := by
  rcases Nat.eq_zero_or_pos ys.length with e | e
  · obtain rfl := List.eq_nil_of_length_eq_zero e
    simp [cpy]
  · have h1 : xs.length - N = 0 := by
      rcases nmin ys.length (xs.length - N) with ⟨h2, e2⟩ | ⟨h2, e2⟩ <;> omega
    have h2 : N = xs.length := by omega
    subst h2
    simp [cpy]
theorem addr_add_plain (g j : Nat) : (⟨g, 0, none⟩ : Addr).add j = ⟨g, j, none⟩ := by unfold Addr.add; split <;> simp_all

section
variable {P : Program} {α : Type} {enc : α → Value} {h1 : ∀ x, (enc x).oneCell' = true}
theorem run_copy_words {W : World} (base e : Nat) (tD tS ty : TypeId) (z : Value) (bytes : Nat)
    (ht : P.underlying tD = some (.slice e)) (hinfo : (P.info? e).map (fun i => (i.zero, i.size, i.bytes)) = some (some z, 1, bytes))
    (v : Value) (xs ys : List α) (N : Nat) (hN : N ≤ xs.length) (D A : Option Addr) (dl dc m c : Nat) (hdl : dl = xs.length - N) (hm : m = ys.length)
    (hD : 0 < dl → ∀ g cap, v = .slice (some ⟨g, 0, none⟩) xs.length cap → D = some ⟨g, N, none⟩)
    (ok : Nat → Prop) (HO : (Kd.scalar enc h1).R e W base ok v xs) (HR : (Kd.scalar enc h1).C W A ys.length ys) :
    ∃ W1, (Builtin.copy_ #[tD, tS] ty #[.slice D dl dc, .slice A m c]).run P W = .ok (goInt (Nat.min ys.length (xs.length - N))) W1 ∧
      (Kd.scalar enc h1).R e W1 base ok v (cpy xs N ys) ∧ W.grownBy W1 v.ownBlock := by
  have hsz : (P.info? e).map (·.size) = some 1 := by
    obtain ⟨i, hi, h⟩ := Option.map_eq_some_iff.1 hinfo
    simp only [Prod.mk.injEq] at h
    rw [hi, Option.map_some, h.2.1]
  subst hdl
  subst hm
  by_cases h0 : Nat.min ys.length (xs.length - N) = 0
  · refine ⟨W, ?_, by rw [cpy_none xs N ys hN h0]; exact HO, World.grownBy.refl W _⟩
    rw [h0]
    exact run_copy_none (P := P) W tD tS ty e D A _ dc _ c ht hsz h0
  · have hown := Kd.own_of_R HO
    have hpos : 0 < ys.length ∧ 0 < xs.length - N := by
      rcases nmin ys.length (xs.length - N) with ⟨h2, e2⟩ | ⟨h2, e2⟩ <;> omega
    obtain ⟨ad, rfl, hsrc⟩ := HR.2.2 hpos.1
    obtain ⟨hlen, hv⟩ := hown
    rcases hv with ⟨_, hn⟩ | ⟨g, cap, cur, rfl, hbg, hh, hnc, hcm, hcs, htk⟩
    · omega
    · obtain rfl := hD hpos.2 g cap rfl
      have hmin : (encs enc (ys.take (xs.length - N))).length = Nat.min ys.length (xs.length - N) := by
        rw [encs_length, List.length_take]; exact Nat.min_comm _ _
      have hminle : (encs enc (ys.take (xs.length - N))).length ≤ xs.length - N := by
        rw [encs_length, List.length_take]; omega
      have hcells : ∀ j u, (encs enc (ys.take (xs.length - N)))[j]? = some u → W.cell? (ad.add j) = some u := by
        intro j u hu
        simp only [encs, List.getElem?_map, List.getElem?_take] at hu
        split at hu
        · obtain ⟨p, hp, rfl⟩ := Option.map_eq_some_iff.1 hu
          obtain ⟨cs, hl, rfl, hc⟩ := hsrc j p hp
          have := hc 0 (enc p) rfl
          simpa [Kd.scalar] using this
        · cases hu
      have hcur : cur.toList.length = cap := by simpa using hcs
      have hrun := run_copy_row (P := P) W tD tS ty e g N (xs.length - N) dc ad ys.length c cur e (encs enc (ys.take (xs.length - N))) ht hsz hh hmin hcells
        (by simp only [Nat.mul_one] at hcs; omega) (fun u hu => by obtain ⟨p, _, rfl⟩ := List.mem_map.1 hu; exact h1 p)
      rw [hmin] at hrun
      refine ⟨_, hrun, ⟨HO.1, encs enc (cpy xs N ys), ?_, Kd.reps_scalar _⟩, ⟨rfl, rfl, rfl, by simp [World.setRow], fun k hk hne => setRow_other W g k _ (fun e => hne (by rw [e]; rfl))⟩⟩
      have hxs : cur.toList.take xs.length = encs enc xs := by simpa using htk
      refine ⟨by simp [encs, Kd.scalar], .inr ⟨g, cap, _, by rw [cpy_length xs N ys hN], hbg, setRow_heap W g cur _ e _ hh, by rw [cpy_length xs N ys hN]; exact hnc, hcm, ?_, ?_⟩⟩
      · rw [List.size_toArray, List.length_append, List.length_append, List.length_take, List.length_drop, hcur]
        show _ = cap * 1
        rw [hmin] at *
        omega
      · show List.take ((cpy xs N ys).length * 1) _ = _
        rw [Nat.mul_one, cpy_length xs N ys hN]
        have e1 : cur.toList.take N = encs enc (xs.take N) := by
          have : cur.toList.take N = (cur.toList.take xs.length).take N := by rw [List.take_take]; congr 1; omega
          rw [this, hxs]; simp [encs, List.map_take]
        rw [← hmin]
        generalize hq : encs enc (ys.take (xs.length - N)) = q at *
        have e2 : (cur.toList.drop (N + q.length)).take (xs.length - (N + q.length)) = encs enc (xs.drop (N + q.length)) := by
          rw [List.take_drop, Nat.add_sub_cancel' (by omega), hxs]; simp [encs, List.map_drop]
        have e3 : (cur.toList.take N).length = N := by rw [List.length_take]; omega
        rw [List.toList_toArray, List.append_assoc, List.take_append, e3, List.take_append, List.take_of_length_le (l := cur.toList.take N) (by omega), List.take_of_length_le (l := q) (by omega),
          show xs.length - N - q.length = xs.length - (N + q.length) from by omega, e2, e1]
        simp only [cpy, encs, List.map_append]
        congr 1
        rw [← hq]
        congr 1
        rcases Nat.le_total ys.length (xs.length - N) with h2 | h2
        · congr 2
          rw [encs_length, List.length_take]; omega
        · rw [List.drop_eq_nil_of_le (by rw [encs_length, List.length_take]; omega), List.drop_eq_nil_of_le (by omega)]
end
section
variable {P : Program} {ops : Array Oper} {rest : List Oper} {o : Oper} {a : Act} {Q : Exit → Act → World → Prop} {α : Type} {enc : α → Value} {h1 : ∀ x, (enc x).oneCell' = true}
theorem wp_copy_words {W W1 : World} (hgd : o.guard = none) (s x : Operand) (tD tS : TypeId) (ho : o.op = .call { callee := .builtin .copy, args := #[s, x], argTypes := #[tD, tS] })
    (vs vx : Value) (hs : a.eval s = vs) (hx : a.eval x = vx) (n : Value) (hrun : (Builtin.copy_ #[tD, tS] o.type #[vs, vx]).run P W = .ok n W1)
    (h : wpList P ops Q rest (a.put o.dst n) W1) : wpList P ops Q (o :: rest) a W := by
  refine wpList_plain hgd fun K hK => ?_
  unfold Oper.wp
  simp [execOp, ho, resolve, invoke, builtin, hs, hx, hrun, Result.andThen]
  exact hK _ _ h

/-- copy(dst, src), dst a whole row of the call's own. -/
theorem Kd.R_cpy {w0 W : World} (base : Nat) (hbase : base ≤ W.heap.size) (hgd : o.guard = none) (s x : Operand) (tD tS e : TypeId) (z : Value) (bytes : Nat)
    (ho : o.op = .call { callee := .builtin .copy, args := #[s, x], argTypes := #[tD, tS] })
    (ht : P.underlying tD = some (.slice e)) (hinfo : (P.info? e).map (fun i => (i.zero, i.size, i.bytes)) = some (some z, 1, bytes))
    (v : Value) (xs ys : List α) (A : Option Addr) (m c : Nat) (ok : Nat → Prop) (hs : a.eval s = v) (hx : a.eval x = .slice A m c) (hm : m = ys.length)
    (HO : (Kd.scalar enc h1).R e W base ok v xs) (HR : (Kd.scalar enc h1).C W A ys.length ys) (HB : Below base w0 W)
    (h : ∀ w1, (Kd.scalar enc h1).R e w1 base ok v (cpy xs 0 ys) → Below base w0 w1 → W.grownBy w1 v.ownBlock → wpList P ops Q rest (a.put o.dst (.int .i64 (mn (ys.length : Int) (xs.length : Int)))) w1) :
    wpList P ops Q (o :: rest) a W := by
  obtain ⟨D, dc, hv, hle, _⟩ := Kd.R_reads HO
  obtain ⟨W1, hrun, HO1, hg⟩ := run_copy_words (P := P) base e tD tS o.type z bytes ht hinfo v xs ys 0 (Nat.zero_le _) D A xs.length dc m c (by omega) hm
    (fun _ g cap h => by rw [hv] at h; injection h) ok HO HR
  refine wp_copy_words hgd s x tD tS ho v _ hs hx _ (by rw [hv]; exact hrun) ?_
  have e1 : goInt (Nat.min ys.length (xs.length - 0)) = .int .i64 (mn (ys.length : Int) (xs.length : Int)) := by
    unfold goInt mn
    rw [Nat.sub_zero]
    congr 1
    rcases nmin ys.length xs.length with ⟨h2, e2⟩ | ⟨h2, e2⟩
    · rw [e2, if_neg (by omega)]
    · rw [e2, if_pos (by omega)]
  rw [e1]
  exact h W1 HO1 (HB.grown hg hbase (Kd.R_base HO)) hg

/-- copy(dst[N:], src), dst a row of the call's own. -/
theorem Kd.R_cpy_at {w0 W : World} (base : Nat) (hbase : base ≤ W.heap.size) (hgd : o.guard = none) (s x : Operand) (tD tS e : TypeId) (z : Value) (bytes : Nat)
    (ho : o.op = .call { callee := .builtin .copy, args := #[s, x], argTypes := #[tD, tS] })
    (ht : P.underlying tD = some (.slice e)) (hinfo : (P.info? e).map (fun i => (i.zero, i.size, i.bytes)) = some (some z, 1, bytes))
    (v : Value) (xs ys : List α) (N : Nat) (D0 D A : Option Addr) (n0 c0 dl dc m c : Nat) (ok : Nat → Prop) (hv : v = .slice D0 n0 c0) (hs : a.eval s = .slice D dl dc) (hx : a.eval x = .slice A m c) (hm : m = ys.length)
    (hN : N ≤ xs.length) (hdl : dl = xs.length - N) (hDD : D = if c0 = N then D0 else D0.map (·.add (N * 1)))
    (HO : (Kd.scalar enc h1).R e W base ok v xs) (HR : (Kd.scalar enc h1).C W A ys.length ys) (HB : Below base w0 W)
    (h : ∀ w1, (Kd.scalar enc h1).R e w1 base ok v (cpy xs N ys) → Below base w0 w1 → W.grownBy w1 v.ownBlock → wpList P ops Q rest (a.put o.dst (.int .i64 (mn (ys.length : Int) ((xs.length - N : Nat) : Int)))) w1) :
    wpList P ops Q (o :: rest) a W := by
  obtain ⟨D1, dc1, hv1, hle, _⟩ := Kd.R_reads HO
  obtain ⟨W1, hrun, HO1, hg⟩ := run_copy_words (P := P) base e tD tS o.type z bytes ht hinfo v xs ys N hN D A dl dc m c hdl hm
    (fun hp g cap h => by
      rw [hv] at h hv1
      injection h with h2 h3 h4
      injection hv1 with h5 h6 h7
      subst h2
      rw [hDD, if_neg (by omega)]
      simp [addr_add_plain]) ok HO HR
  refine wp_copy_words hgd s x tD tS ho _ _ hs hx _ hrun ?_
  have e1 : goInt (Nat.min ys.length (xs.length - N)) = .int .i64 (mn (ys.length : Int) ((xs.length - N : Nat) : Int)) := by
    unfold goInt mn
    congr 1
    rcases nmin ys.length (xs.length - N) with ⟨h2, e2⟩ | ⟨h2, e2⟩
    · rw [e2, if_neg (by omega)]
    · rw [e2, if_pos (by omega)]
  rw [e1]
  exact h W1 HO1 (HB.grown hg hbase (Kd.R_base HO)) hg
end
/-- The package variable 'steelyard/digits.tens', as the row lists it. -/
def tab0_ : List Int := [1, 10, 100, 1000, 10000, 100000, 1000000, 10000000, 100000000, 1000000000]
end Go.Proofs.YtejllhfmhcccaaaDoorW.PrintWords

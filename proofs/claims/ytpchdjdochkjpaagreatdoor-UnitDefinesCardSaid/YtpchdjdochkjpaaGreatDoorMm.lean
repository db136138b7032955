/- A piece of a unit's text, and a whole text, as they are read. · Names as the reference tells them; the table's units may be, and their powers; a new table. · Which units may be; a table with one unit more. -/
import Derived.Test.YtpchdjdochkjpaaGreatDoorMl
import Derived.Test.YtpchdjdochkjpaaGreatDoorMv
import Derived.Test.YtpchdjdochkjpaaGreatDoorMx
set_option linter.unusedVariables false
set_option linter.unusedSimpArgs false
namespace Go.Proofs.YtpchdjdochkjpaaGreatDoor.Lib
open Go.RowKit Go.Proofs.YtpchdjdochkjpaaGreatDoorW.PrintWords Go.Proofs.YtpchdjdochkjpaaGreatDoorW.PrintMore Go.Proofs.YtpchdjdochkjpaaGreatDoor.P
variable {s : ByteArray} {u v : List Int} {w : Un} {e p : Int} {q : Rat} {d : Dm}
theorem nr_loop {t : ByteArray} (ht : t.size ≤ 1000000) : ∀ (j n : Nat), n + j = 16 → 1 ≤ n → n ≤ t.size → Ev (fun k => unit_name.l0 k t (n : Int)) (((n + nr j ((ns t).drop n) : Nat) : Nat) : Int)
 | 0, n, h, h1, h2 => by
  refine Ev.succ ?_
  simp only [unit_name.l0]
  have e : mn (t.size : Int) 16 ≤ 16 := by unfold mn; split <;> omega
  refine Ev.ifn (by omega) (Ev.const ?_)
  show some _ = some _
  congr 1
 | j + 1, n, h, h1, h2 => by
  refine Ev.succ ?_
  simp only [unit_name.l0]
  by_cases c : n < t.size
  ·have e : (n : Int) < mn (t.size : Int) 16 := by unfold mn; split <;> omega
   refine Ev.ifp e (Ev.ifp (by omega) (Ev.ifp (by omega) ?_))
   have hd1 := drop_getD (ns t) (i := n) (by rw [ns_len]; exact c)
   rw [bt_ns, hd1, nr_cons]
   generalize hx : (ns t).getD n 0 = x
   have ew : wrap64 ((n : Int) + 1) = ((n + 1 : Nat) : Int) := by rw [w64 (by omega) (by omega)]; omega
   have next : Ev (fun k => unit_name.l0 k t ((n + 1 : Nat) : Int)) (((n + 1 + nr j ((ns t).drop (n + 1)) : Nat) : Nat) : Int) := nr_loop ht j (n + 1) (by omega) (by omega) (by omega)
   have en : n + (nr j ((ns t).drop (n + 1)) + 1) = n + 1 + nr j ((ns t).drop (n + 1)) := by omega
   rw [ew]
   refine Ev.bind (Ev.const (letter_eq x)) ?_
   by_cases c1 : ltr x = true
   ·refine Ev.ifp c1 ?_
    rw [if_pos (ltr_ano c1), en]; exact next
   refine Ev.ifn c1 (Ev.bind (Ev.const (digit_eq x)) ?_)
   by_cases c2 : dgt x = true
   ·refine Ev.ifp c2 ?_
    rw [if_pos (by unfold ano; simp [c2]), en]; exact next
   refine Ev.ifn c2 ?_
   by_cases c3 : x = 95
   ·refine Ev.ifp c3 ?_
    rw [if_pos (by unfold ano; simp [c3]), en]; exact next
   ·refine Ev.ifn c3 ?_
    rw [if_neg (by unfold ano; simp [c1, c2, c3])]
    exact Ev.now _
  ·have e : ¬ (n : Int) < mn (t.size : Int) 16 := by unfold mn; split <;> omega
   refine Ev.ifn e (Ev.const ?_)
   rw [List.drop_of_length_le (by rw [ns_len]; omega)]
   rfl
theorem name_to {t : ByteArray} (ht : t.size ≤ 1000000) : Ev (fun k => unit_name.f k t) ((nm (ns t) : Nat) : Int) := by
 unfold unit_name.f
 have hl := ns_len t
 cases hu : ns t with
 | nil =>
  refine Ev.ifp (ns_nil_iff.2 hu) (Ev.succ ?_)
  simp only [unit_name.j0]
  exact Ev.ifp trivial (Ev.now _)
 | cons x l =>
  rw [hu] at hl
  simp only [List.length_cons] at hl
  refine Ev.ifn (fun h => by rw [ns_nil_iff.1 h] at hu; cases hu) (Ev.ifp (by omega) ?_)
  have h0 : bt t 0 = x := by
   have := bt_ns t 0
   rw [hu] at this
   exact this
  rw [h0, nm_cons]
  refine Ev.bind (Ev.const (letter_eq x)) (Ev.succ ?_)
  simp only [unit_name.j0]
  by_cases c : ltr x = true
  ·refine Ev.ifn (by rw [c]; decide) ?_
   rw [if_pos c]
   have := nr_loop ht 15 1 rfl (Nat.le_refl _) (by omega)
   rw [hu] at this
   rw [show nr 15 l + 1 = 1 + nr 15 l by omega]
   exact this
  ·refine Ev.ifp (by simpa using c) ?_
   rw [if_neg c]
   exact Ev.now _
def Bad (s : ByteArray) (e : Int) (a : List Int) (R : Rd) : Prop := R.e = e ∧ R.p = po s a ∧ ∃ b, b <:+ ns s ∧ R.i = po s b
def pcR (s : ByteArray) (q : Rat) (d : Dm) (o : Bool) : Pc → Rd → Prop
 | .bad e a, R => Bad s e a R
 | .one r, R => R = ⟨po s r, cu q d, 0, 0⟩
 | .un a r q' d', R => (Fit (qop o q q') (dop o d d') → R = ⟨po s r, cu (qop o q q') (dop o d d'), 0, 0⟩) ∧ (¬ Fit (qop o q q') (dop o d d') → Bad s 2 a R)
theorem fails0 (i : Int) (w : Un) (p e a : Int) : unit_reader_fails.f ⟨i, w, 0, p⟩ e a = some ⟨i, w, e, a⟩ := rfl
theorem fin_to (l : Tab) (o : Bool) {u r : List Int} (hr : r <:+ ns s) (g : Gu q d) {q' : Rat} {d' : Dm} (g' : 0 < q') (hd' : Fit q' d') :
  ∃ R, Ev (fun k => unit_reader_piece.p k l o (po s u) ⟨po s r, cu q d, 0, 0⟩ (cu q' d', true)) (l, R) ∧ pcR s q d o (.un u r q' d') R := by
 unfold unit_reader_piece.p
 have hp := product_to g (⟨hd', g'⟩ : Gu q' d') o
 by_cases c : Fit (qop o q q') (dop o d d')
 ·rw [ru_yes c] at hp
  exact ⟨_, Ev.ifp rfl (Ev.ifp rfl (Ev.bind hp (Ev.ifp rfl (Ev.now _)))), fun _ => rfl, fun h => absurd c h⟩
 ·have hn := ru_no c
  refine ⟨⟨po s r, (ru (qop o q q') (dop o d d')).1, 2, po s u⟩, Ev.ifp rfl (Ev.ifp rfl (Ev.bind hp (Ev.ifn (by rw [hn]; decide) ?_))), fun h => absurd h c, fun _ => ⟨rfl, rfl, r, hr, rfl⟩⟩
  exact Ev.bind (Ev.const (fails0 _ _ _ _ _)) (Ev.now _)
theorem named_to {l : Tab} (hl : Tk l) (hs : s.size ≤ 1000000) (o : Bool) (g : Gu q d) (hu : u <:+ ns s) {n : Nat} (hn : n ≤ u.length) :
  ∃ R, Ev (fun k => unit_reader_piece.r k l s o (po s u) ⟨po s (u.drop n), cu q d, 0, 0⟩) (l, R) ∧ pcR s q d o (pcu u (u.drop n) (tv l (u.take n))) R := by
 have hdr := (List.drop_suffix n u).trans hu
 have r1 := po_range hdr
 have hle : po s u ≤ po s (u.drop n) := by unfold po; rw [List.length_drop]; omega
 have hm := ns_mid hu hn
 unfold unit_reader_piece.r
 cases hT : tv l (u.take n) with
 | none =>
  rw [← hm] at hT
  exact ⟨⟨po s (u.drop n), cu q d, 15, po s u⟩, Ev.ifp hle (Ev.ifp r1.2 (Ev.bind (Of_no (tv_none hT)) (Ev.ifn (show ¬ (false = true) by decide) (Ev.bind (Ev.const (fails0 _ _ _ _ _)) (Ev.now _))))), rfl, rfl, _, hdr, rfl⟩
 | some x =>
  obtain ⟨q', d'⟩ := x
  rw [← hm] at hT
  obtain ⟨hT, g'⟩ := tv_some hl hT
  obtain ⟨E, hE, hx⟩ := expo_to (w := cu q d) (p := 0) hs hdr
  obtain ⟨E1, E2⟩ := E
  show ∃ R, _ ∧ pcR s q d o (pcx u (q', d') (ex (u.drop n))) R
  have hst : ∀ {R : Rd}, Ev (fun k => (unit_raised.f k (cu q' d') E2).bind fun z => unit_reader_piece.p k l o (po s u) E1 z) (l, R) →
    Ev (fun k => if po s u ≤ po s (u.drop n) then (if po s (u.drop n) ≤ (s.size : Int) then ((unit_Table_Of.f k (some l) (s.extract (po s u).toNat (po s (u.drop n)).toNat)).bind fun t => (if t.2.2 = true then ((unit_reader_exponent.f k s ⟨po s (u.drop n), cu q d, 0, 0⟩).bind fun e => ((unit_raised.f k t.2.1 e.2).bind fun z => (unit_reader_piece.p k t.1 o (po s u) e.1 z))) else ((unit_reader_fails.f ⟨po s (u.drop n), cu q d, 0, 0⟩ 15 (po s u)).bind fun q => (some (t.1, q))))) else (none)) else (none)) (l, R) := fun h =>
   Ev.ifp hle (Ev.ifp r1.2 (Ev.bind (Of_yes hT g') (Ev.ifp rfl (Ev.bind hE h))))
  -- what the power comes to
  have hpow : ∀ n : Int, ((-64 ≤ n ∧ n ≤ 64) ∧ Ev (fun k => unit_raised.f k (cu q' d') n) (ru (pw q' n) (dpow d' n))) ∨ (¬ (-64 ≤ n ∧ n ≤ 64) ∧ Ev (fun k => unit_raised.f k (cu q' d') n) (zu, false)) := fun n => by
   by_cases c : -64 ≤ n ∧ n ≤ 64
   ·exact .inl ⟨c, raised_to g' c⟩
   ·exact .inr ⟨c, raised_no (by omega)⟩
  cases hex : ex (u.drop n) with
  | inl a =>
   rw [hex] at hx
   have hx : E1 = ⟨po s a, cu q d, 12, po s a⟩ := hx
   subst hx
   have ha := (ex_suf.1 a hex).trans hdr
   have hlast : ∀ z : Un × Bool, ∃ R, Ev (fun k => unit_reader_piece.p k l o (po s u) ⟨po s a, cu q d, 12, po s a⟩ z) (l, R) ∧ R = ⟨po s a, cu q d, 12, po s a⟩ := fun z => by
    refine ⟨_, ?_, rfl⟩
    unfold unit_reader_piece.p
    refine Ev.ifn (show ¬ ((12 : Int) = 0) by decide) ?_
    by_cases c : z.2 = true
    ·exact Ev.ifp c (Ev.now _)
    ·exact Ev.ifn c (Ev.bind (Ev.const (show unit_reader_fails.f ⟨po s a, cu q d, 12, po s a⟩ 2 (po s u) = some ⟨po s a, cu q d, 12, po s a⟩ from rfl)) (Ev.now _))
   rcases hpow E2 with ⟨_, hp⟩ | ⟨_, hp⟩
   ·obtain ⟨R, h1, h2⟩ := hlast (ru (pw q' E2) (dpow d' E2))
    exact ⟨R, hst (Ev.bind hp h1), by rw [h2]; exact ⟨rfl, rfl, a, ha, rfl⟩⟩
   ·obtain ⟨R, h1, h2⟩ := hlast (zu, false)
    exact ⟨R, hst (Ev.bind hp h1), by rw [h2]; exact ⟨rfl, rfl, a, ha, rfl⟩⟩
  | inr y =>
   rw [hex] at hx
   have hx : (E1, E2) = ((⟨po s y.2, cu q d, 0, 0⟩ : Rd), y.1) := hx
   obtain ⟨rfl, rfl⟩ := Prod.mk.inj hx
   have hy := (ex_suf.2 y.1 y.2 hex).trans hdr
   have hbad : ∀ z : Un × Bool, z.2 = false → ∃ R, Ev (fun k => unit_reader_piece.p k l o (po s u) ⟨po s y.2, cu q d, 0, 0⟩ z) (l, R) ∧ Bad s 2 u R := fun z hz => by
    refine ⟨⟨po s y.2, cu q d, 2, po s u⟩, ?_, rfl, rfl, _, hy, rfl⟩
    unfold unit_reader_piece.p
    exact Ev.ifp rfl (Ev.ifn (by rw [hz]; decide) (Ev.bind (Ev.const (fails0 _ _ _ _ _)) (Ev.now _)))
   unfold pcx
   simp only []
   rcases hpow y.1 with ⟨hn64, hp⟩ | ⟨hn64, hp⟩
   ·by_cases c : Fit (pw q' y.1) (dpow d' y.1)
    ·rw [if_pos (show Pw y.1 q' d' from ⟨hn64, c⟩)]
     rw [ru_yes c] at hp
     obtain ⟨R, h1, h2⟩ := fin_to (s := s) (u := u) l o hy g (pw_pos g'.2 y.1) c
     exact ⟨R, hst (Ev.bind hp h1), h2⟩
    ·rw [if_neg (fun h : Pw y.1 q' d' => c h.2)]
     obtain ⟨R, h1, h2⟩ := hbad _ (ru_no c)
     exact ⟨R, hst (Ev.bind hp h1), h2⟩
   ·rw [if_neg (fun h : Pw y.1 q' d' => hn64 h.1)]
    obtain ⟨R, h1, h2⟩ := hbad (zu, false) rfl
    exact ⟨R, hst (Ev.bind hp h1), h2⟩
theorem nm_two {x : Int} {t : ByteArray} (ht : ns t = [x]) : nm (ns ((⟨#[97]⟩ : ByteArray) ++ t)) = if ano x then 2 else 1 := by
 rw [ns_append, ht]
 show nm [97, x] = _
 rw [nm_cons, if_pos (by decide), nr_cons]
 split <;> rfl
theorem piece_to {l : Tab} (hl : Tk l) (hs : s.size ≤ 1000000) (o : Bool) (g : Gu q d) (hu : u <:+ ns s) :
  ∃ R, Ev (fun k => unit_reader_piece.f k l s ⟨po s u, cu q d, 0, 0⟩ o) (l, R) ∧ pcR s q d o (pc (tv l) (sk u)) R := by
 have h' := (sk_suf u).trans hu
 have hsk := skip_to (w := cu q d) (e := 0) (p := 0) hs u hu
 generalize sk u = x at h' hsk
 have r := po_range h'
 have hfrom := ns_from h'
 have hsz : (s.extract (po s x).toNat s.size).size ≤ 1000000 := by rw [ns_size, hfrom]; have := h'.length_le; rw [ns_len] at this; omega
 unfold unit_reader_piece.f pc
 have hpre := HasPrefix_one (s.extract (po s x).toNat s.size) 49 (by decide)
 rw [hfrom] at hpre
 have hnm := name_to hsz
 rw [hfrom] at hnm
 by_cases c1 : hd x = 49
 ·rw [if_pos c1]
  cases x with
  | nil => exact absurd c1 (by decide)
  | cons y t =>
   refine ⟨⟨po s t, cu q d, 0, 0⟩, ?_, rfl⟩
   refine Ev.bind hsk (Ev.ifp r.1 (Ev.ifp r.2 (Ev.bind (Ev.const hpre) (Ev.ifp (decide_eq_true c1) ?_))))
   rw [show wrap64 (po s (y :: t) + 1) = po s t from w_next hs h']
   exact Ev.now _
 rw [if_neg c1]
 have hc1 : ¬ decide (hd x = ((49 : UInt8).toNat : Int)) = true := fun h => c1 (of_decide_eq_true h)
 by_cases c2 : nm x = 0
 ·rw [if_pos c2]
  exact ⟨⟨po s x, cu q d, 12, po s x⟩, Ev.bind hsk (Ev.ifp r.1 (Ev.ifp r.2 (Ev.bind (Ev.const hpre) (Ev.ifn hc1 (Ev.bind hnm (Ev.ifp (by omega) (Ev.bind (Ev.const (fails0 _ _ _ _ _)) (Ev.now _)))))))), rfl, rfl, x, h', rfl⟩
 rw [if_neg c2]
 have hn := nm_le x
 have hdr := (List.drop_suffix (nm x) x).trans h'
 have ew : wrap64 (po s x + ((nm x : Nat) : Int)) = po s (x.drop (nm x)) := by
  have := h'.length_le
  rw [ns_len] at this
  rw [w64 (by omega) (by omega)]
  unfold po; rw [List.length_drop]; omega
 obtain ⟨R, hR, hq⟩ := named_to hl hs o g h' hn
 cases hx : x.drop (nm x) with
 | nil =>
  rw [hx] at ew hR hq
  rw [if_neg (show ¬ ano (hd []) = true by decide)]
  refine ⟨R, Ev.bind hsk (Ev.ifp r.1 (Ev.ifp r.2 (Ev.bind (Ev.const hpre) (Ev.ifn hc1 (Ev.bind hnm (Ev.ifn (by omega) ?_)))))), hq⟩
  rw [ew]
  exact Ev.ifn (by rw [po_nil]; omega) hR
 | cons y t =>
  rw [hx] at ew hR hq hdr
  have r2 := po_range hdr
  have r3 := po_range (tl_suf hdr)
  have e1 : po s t = po s (y :: t) + 1 := po_cons
  have hm := ns_mid hdr (n := 1) (by simp)
  have e2 : ns (s.extract (po s (y :: t)).toNat (po s t).toNat) = [y] := hm
  have e3 : (s.extract (po s (y :: t)).toNat (po s t).toNat).size = 1 := by rw [ns_size, e2]; rfl
  have h2 := name_to (t := (⟨#[97]⟩ : ByteArray) ++ s.extract (po s (y :: t)).toNat (po s t).toNat) (by rw [ns_size, ns_append, List.length_append, e2]; show 1 + 1 ≤ 1000000; omega)
  rw [nm_two e2] at h2
  by_cases c3 : ano y = true
  ·rw [if_pos (show ano (hd (y :: t)) = true from c3)]
   rw [if_pos c3] at h2
   refine ⟨⟨po s (y :: t), cu q d, 12, po s (y :: t)⟩, Ev.bind hsk (Ev.ifp r.1 (Ev.ifp r.2 (Ev.bind (Ev.const hpre) (Ev.ifn hc1 (Ev.bind hnm (Ev.ifn (by omega) ?_)))))), rfl, rfl, _, hdr, rfl⟩
   rw [ew, w_next hs hdr]
   exact Ev.ifp po_lt (Ev.ifp r2.1 (Ev.ifp (by omega) (Ev.ifp r3.2 (Ev.ifp (by rw [e3]; decide) (Ev.bind h2 (Ev.ifp rfl (Ev.bind (Ev.const (fails0 _ _ _ _ _)) (Ev.now _))))))))
  ·rw [if_neg (show ¬ ano (hd (y :: t)) = true from c3)]
   rw [if_neg c3] at h2
   refine ⟨R, Ev.bind hsk (Ev.ifp r.1 (Ev.ifp r.2 (Ev.bind (Ev.const hpre) (Ev.ifn hc1 (Ev.bind hnm (Ev.ifn (by omega) ?_)))))), hq⟩
   rw [ew, w_next hs hdr]
   exact Ev.ifp po_lt (Ev.ifp r2.1 (Ev.ifp (by omega) (Ev.ifp r3.2 (Ev.ifp (by rw [e3]; decide) (Ev.bind h2 (Ev.ifn (by decide) hR))))))
def res (s : ByteArray) (l : Tab) : Out → Tab × Un × Int × Int
 | .ok q d => (l, cu q d, 0, 0)
 | .bad e a => (l, zu, e, po s a)
theorem d_bad (l : Tab) {R : Rd} {e : Int} {a : List Int} (h : Bad s e a R) (h0 : e ≠ 0) : unit_Table_Parse.d l R = some (res s l (.bad e a)) := by
 obtain ⟨h1, h2, _⟩ := h
 unfold unit_Table_Parse.d
 rw [if_neg (by rw [h1]; exact h0), h1, h2]
 rfl
theorem e_bad (hs : s.size ≤ 1000000) (l : Tab) {R : Rd} {e : Int} {a : List Int} (h : Bad s e a R) (h0 : e ≠ 0) : Ev (fun k => unit_Table_Parse.e k l s R) (res s l (.bad e a)) := by
 obtain ⟨h1, h2, b, hb, h3⟩ := h
 cases R with
 | mk i w E P =>
  simp only [] at h1 h2 h3
  subst h1 h2 h3
  unfold unit_Table_Parse.e
  refine Ev.bind (skip_to hs b hb) ?_
  have hb' := (sk_suf b).trans hb
  have hd := d_bad l (R := ⟨po s (sk b), w, E, po s a⟩) ⟨rfl, rfl, sk b, hb', rfl⟩ h0
  by_cases c : po s (sk b) < (s.size : Int)
  ·refine Ev.ifp c (Ev.bind (Ev.const (show unit_reader_fails.f ⟨po s (sk b), w, E, po s a⟩ 12 (po s (sk b)) = some ⟨po s (sk b), w, E, po s a⟩ from if_neg h0)) (Ev.const hd))
  ·exact Ev.ifn c (Ev.const hd)
theorem nx_end (hs : s.size ≤ 1000000) (l : Tab) {r : List Int} (hr : r <:+ ns s) {out : Out} (h : nx r q d = .inl out) : Ev (fun k => unit_Table_Parse.l0 k s l ⟨po s r, cu q d, 0, 0⟩) (res s l out) := by
 refine Ev.succ ?_
 simp only [unit_Table_Parse.l0]
 have h1 := sign_to (w := cu q d) (e := 0) (p := 0) hs ⟨#[42, 47]⟩ hr
 have h2 := (sk_suf r).trans hr
 have hns : ns (⟨#[42, 47]⟩ : ByteArray) = [42, 47] := rfl
 rw [hns] at h1
 unfold nx at h
 cases hx : sk r with
 | nil =>
  rw [hx] at h h1 h2
  obtain rfl := Sum.inl.inj h
  refine Ev.ifp trivial (Ev.bind h1 (Ev.ifp rfl ?_))
  unfold unit_Table_Parse.e
  refine Ev.bind (skip_to hs [] h2) (Ev.ifn (by show ¬ po s [] < _; rw [po_nil]; omega) (Ev.const rfl))
 | cons x w =>
  rw [hx] at h h1 h2
  simp only [] at h
  by_cases c1 : x = 42
  ·rw [if_pos c1] at h; cases h
  rw [if_neg c1] at h
  by_cases c2 : x = 47
  ·rw [if_pos c2] at h; cases h
  rw [if_neg c2] at h
  obtain rfl := Sum.inl.inj h
  rw [sgn_no (by simp [c1, c2])] at h1
  refine Ev.ifp trivial (Ev.bind h1 (Ev.ifp rfl ?_))
  have e1 : sk (x :: w) = x :: w := by rw [← hx, sk_sk]
  unfold unit_Table_Parse.e
  have h3 := skip_to (w := cu q d) (e := 0) (p := 0) hs (x :: w) h2
  rw [e1] at h3
  refine Ev.bind h3 (Ev.ifp po_lt (Ev.bind (Ev.const (fails0 _ _ _ _ _)) (Ev.const ?_)))
  exact d_bad l ⟨rfl, rfl, _, h2, rfl⟩ (by decide)
theorem nx_go (hs : s.size ≤ 1000000) (l : Tab) {r w : List Int} (hr : r <:+ ns s) {q' : Rat} {d' : Dm} {o : Bool} (h : nx r q d = .inr (w, q', d', o)) {R : Tab × Un × Int × Int}
  (k : Ev (fun k => (unit_reader_piece.f k l s ⟨po s w, cu q' d', 0, 0⟩ o).bind fun z => unit_Table_Parse.l0 k s z.1 z.2) R) : Ev (fun k => unit_Table_Parse.l0 k s l ⟨po s r, cu q d, 0, 0⟩) R := by
 refine Ev.succ ?_
 simp only [unit_Table_Parse.l0]
 have h1 := sign_to (w := cu q d) (e := 0) (p := 0) hs ⟨#[42, 47]⟩ hr
 have hns : ns (⟨#[42, 47]⟩ : ByteArray) = [42, 47] := rfl
 rw [hns] at h1
 unfold nx at h
 cases hx : sk r with
 | nil => rw [hx] at h; cases h
 | cons x v =>
  rw [hx] at h h1
  simp only [] at h
  by_cases c1 : x = 42
  ·rw [if_pos c1] at h
   cases h
   rw [sgn_yes (by simp [c1])] at h1
   subst c1
   exact Ev.ifp trivial (Ev.bind h1 (Ev.ifn (show ¬ (42 : Int) = 0 by decide) k))
  rw [if_neg c1] at h
  by_cases c2 : x = 47
  ·rw [if_pos c2] at h
   cases h
   rw [sgn_yes (by simp [c2])] at h1
   subst c2
   exact Ev.ifp trivial (Ev.bind h1 (Ev.ifn (show ¬ (47 : Int) = 0 by decide) k))
  ·rw [if_neg c2] at h; cases h
theorem urun_to {l : Tab} (hl : Tk l) (hs : s.size ≤ 1000000) {u : List Int} {q : Rat} {d : Dm} {o : Bool} {r : Out} (h : Run (tv l) u q d o r) :
  u <:+ ns s → Gu q d → Ev (fun k => (unit_reader_piece.f k l s ⟨po s u, cu q d, 0, 0⟩ o).bind fun z => unit_Table_Parse.l0 k s z.1 z.2) (res s l r) := by
 induction h with
 | @fin u q d o r h =>
  intro hu g
  obtain ⟨R, hR, hq⟩ := piece_to hl hs o g hu
  refine Ev.bind hR ?_
  unfold st at h
  obtain ⟨s1, s2, s3⟩ := pc_suf (T := tv l) (u := sk u)
  cases hp : pc (tv l) (sk u) with
  | bad e a =>
   rw [hp] at h hq
   obtain rfl := Sum.inl.inj h
   have he := pc_err hp
   have h0 : e ≠ 0 := by omega
   refine Ev.succ ?_
   simp only [unit_Table_Parse.l0]
   exact Ev.ifn (by rw [hq.1]; exact h0) (e_bad hs l hq h0)
  | one r' =>
   rw [hp] at h hq
   have hq : R = ⟨po s r', cu q d, 0, 0⟩ := hq
   subst hq
   exact nx_end hs l ((s2 r' hp).1.trans ((sk_suf u).trans hu)) h
  | un a r' q' d' =>
   rw [hp] at h hq
   unfold stp at h
   simp only [] at h
   by_cases c : Fit (qop o q q') (dop o d d')
   ·rw [if_pos c] at h
    rw [hq.1 c]
    exact nx_end hs l ((s3 _ _ _ _ hp).2.1.trans ((sk_suf u).trans hu)) h
   ·rw [if_neg c] at h
    obtain rfl := Sum.inl.inj h
    have hb := hq.2 c
    refine Ev.succ ?_
    simp only [unit_Table_Parse.l0]
    exact Ev.ifn (by rw [hb.1]; decide) (e_bad hs l hb (by decide))
 | @go u q d o u' q' d' o' r h k ih =>
  intro hu g
  obtain ⟨R, hR, hq⟩ := piece_to hl hs o g hu
  refine Ev.bind hR ?_
  have ih := ih ((st_lt h).2.trans hu) ((st_good (Tg_tv hl) g).2 _ _ _ _ h)
  unfold st at h
  obtain ⟨s1, s2, s3⟩ := pc_suf (T := tv l) (u := sk u)
  cases hp : pc (tv l) (sk u) with
  | bad e a => rw [hp] at h; cases h
  | one r' =>
   rw [hp] at h hq
   have hq : R = ⟨po s r', cu q d, 0, 0⟩ := hq
   subst hq
   exact nx_go hs l ((s2 r' hp).1.trans ((sk_suf u).trans hu)) h ih
  | un a r' qq dd =>
   rw [hp] at h hq
   unfold stp at h
   simp only [] at h
   by_cases c : Fit (qop o q qq) (dop o d dd)
   ·rw [if_pos c] at h
    rw [hq.1 c]
    exact nx_go hs l ((s3 _ _ _ _ hp).2.1.trans ((sk_suf u).trans hu)) h ih
   ·rw [if_neg c] at h; cases h
theorem Gu_one : Gu 1 z7 := ⟨Fit_one, by decide⟩
theorem uParse_to {l : Tab} (hl : Tk l) (hs : s.size ≤ 200) {r : Out} (h : Run (tv l) (ns s) 1 z7 false r) : Ev (fun k => unit_Table_Parse.f k (some l) s) (res s l r) := by
 unfold unit_Table_Parse.f
 refine Ev.bind (a := l) (Ev.now _) (Ev.ifn (by omega) (Ev.bind (qWhole_to (by omega) (by omega)) ?_))
 have := urun_to hl (by omega) h (List.suffix_refl _) Gu_one
 have e : po s (ns s) = 0 := by unfold po; rw [ns_len]; omega
 rw [e] at this
 exact this
end Go.Proofs.YtpchdjdochkjpaaGreatDoor.Lib
set_option linter.unusedVariables false
set_option linter.unusedSimpArgs false
namespace Go.Proofs.YtpchdjdochkjpaaGreatDoor.Lib
open Go.RowKit Go.Proofs.YtpchdjdochkjpaaGreatDoorW.PrintWords Go.Proofs.YtpchdjdochkjpaaGreatDoorW.PrintMore Go.Proofs.YtpchdjdochkjpaaGreatDoor.P
variable {s : ByteArray} {q : Rat} {d : Dm}
def nmc (b : Bool) : List Int → Bool
 | [] => true
 | x :: l => (ltr x || (!b && (dgt x || decide (x = 95)))) && nmc false l
theorem nmc_cons (b : Bool) (x : Int) (l : List Int) : nmc b (x :: l) = ((ltr x || (!b && (dgt x || decide (x = 95)))) && nmc false l) := rfl
def nameB (w : List Int) : Bool := nmc true w && (decide (1 ≤ w.length) && decide (w.length ≤ 16))
theorem nmc_all : ∀ l : List Int, nmc false l = true ↔ ∀ x ∈ l, ano x = true
 | [] => by simp [nmc]
 | x :: l => by
  rw [nmc_cons, Bool.and_eq_true, nmc_all l, List.forall_mem_cons]
  have : (ltr x || (!false && (dgt x || decide (x = 95)))) = ano x := by unfold ano; simp [Bool.or_assoc]
  rw [this]
theorem nameB_iff (w : List Int) : nameB w = true ↔ Nam w := by
 unfold nameB Nam
 cases w with
 | nil => simp
 | cons x l =>
  have : (ltr x || (!true && (dgt x || decide (x = 95)))) = ltr x := by simp
  rw [nmc_cons, this]
  simp only [Bool.and_eq_true, decide_eq_true_eq, nmc_all, ne_eq, reduceCtorEq, not_false_eq_true, true_and, List.forall_mem_cons]
  show _ ↔ _ ∧ ltr x = true ∧ ano x = true ∧ _
  constructor
  ·rintro ⟨⟨h1, h2⟩, h3, h4⟩; exact ⟨h4, h1, ltr_ano h1, h2⟩
  ·rintro ⟨h4, h1, _, h2⟩; exact ⟨⟨h1, h2⟩, by simp, h4⟩
theorem rletter_eq (x : Int) : steelyardref12_letter.f x = some (ltr x) := letter_eq x
theorem rdigit_eq (x : Int) : steelyardref12_digit.f x = some (dgt x) := digit_eq x
theorem rname_loop (hs : s.size ≤ 1000000) : ∀ (j i : Nat), i + j = s.size → Ev (fun k => steelyardref12_Name.l0 k s (i : Int)) (nmc (decide (i = 0)) ((ns s).drop i) && (decide (1 ≤ s.size) && decide (s.size ≤ 16)))
 | 0, i, h => by
  refine Ev.succ ?_
  simp only [steelyardref12_Name.l0]
  rw [List.drop_of_length_le (by rw [ns_len]; omega)]
  refine Ev.ifn (by omega) ?_
  by_cases c : 1 ≤ s.size
  ·refine Ev.ifp (by omega) (Ev.const ?_)
   show some _ = some _
   rw [decide_eq_true c]
   show some _ = some (true && (true && _))
   rw [Bool.true_and, Bool.true_and]
   congr 1
   exact decide_eq_decide.2 (by omega)
  ·refine Ev.ifn (by omega) (Ev.const ?_)
   rw [decide_eq_false c]; rfl
 | j + 1, i, h => by
  refine Ev.succ ?_
  simp only [steelyardref12_Name.l0]
  have hd1 := drop_getD (ns s) (i := i) (by rw [ns_len]; omega)
  rw [hd1, nmc_cons]
  refine Ev.ifp (by omega) (Ev.ifp (by omega) ?_)
  rw [bt_ns]
  generalize (ns s).getD i 0 = x
  have ew : wrap64 ((i : Int) + 1) = ((i + 1 : Nat) : Int) := by rw [w64 (by omega) (by omega)]; omega
  have next := rname_loop hs j (i + 1) (by omega)
  rw [show decide (i + 1 = 0) = false from decide_eq_false (by omega)] at next
  rw [ew]
  refine Ev.bind (Ev.const (rletter_eq x)) ?_
  by_cases c1 : ltr x = true
  ·refine Ev.ifp c1 ?_
   rw [c1, Bool.true_or, Bool.true_and]; exact next
  refine Ev.ifn c1 ?_
  have c1' : ltr x = false := by simpa using c1
  rw [c1', Bool.false_or]
  by_cases c0 : i = 0
  ·refine Ev.ifp (by omega) (Ev.const ?_)
   rw [decide_eq_true c0]; rfl
  refine Ev.ifn (by omega) (Ev.bind (Ev.const (rdigit_eq x)) ?_)
  rw [decide_eq_false c0]
  by_cases c2 : dgt x = true
  ·refine Ev.ifp c2 ?_
   rw [c2, Bool.true_or, Bool.not_false, Bool.and_true, Bool.true_and]; exact next
  refine Ev.ifn c2 ?_
  have c2' : dgt x = false := by simpa using c2
  rw [c2', Bool.false_or]
  by_cases c3 : x = 95
  ·refine Ev.ifp c3 ?_
   rw [decide_eq_true c3, Bool.not_false, Bool.and_true, Bool.true_and]; exact next
  ·refine Ev.ifn c3 (Ev.const ?_)
   rw [decide_eq_false c3]; rfl
theorem rname_to (hs : s.size ≤ 1000000) : Ev (fun k => steelyardref12_Name.f k s) (nameB (ns s)) := by
 have := rname_loop hs s.size 0 (by omega)
 unfold nameB
 rw [ns_len]
 exact this
def chkU : Un → Bool
 | ⟨false, [a], [b], d⟩ => decide (0 < a ∧ a < 4294967296 ∧ 0 < b ∧ b < 4294967296 ∧ Nat.gcd a.toNat b.toNat = 1) && (decide (Gd d) && [(0 : Int), 1, 2, 3, 4, -1, -2, -3, -4].all fun k => decide (Gd (dpow d k)))
 | _ => false
theorem chkU_T92 : (T92.all fun p => chkU p.2) = true := by decide +kernel
theorem Qs_small {q : Rat} (h : q.num.natAbs < Bp 1) (k : q.den < Bp 1) (n : Nat) (hn : n ≤ 4) : Qs (q ^ n) := by
 have e : ∀ x : Nat, x < Bp 1 → x ^ n < Bp 64 := fun x hx => by
  have h1 : x ^ n ≤ Bp 1 ^ n := Nat.pow_le_pow_left (by omega) n
  have h2 : Bp 1 ^ n < Bp 64 := by
   have : n = 0 ∨ n = 1 ∨ n = 2 ∨ n = 3 ∨ n = 4 := by omega
   rcases this with rfl | rfl | rfl | rfl | rfl <;> decide
  omega
 exact ⟨by rw [pow_num]; exact e _ h, by rw [pow_den]; exact e _ k⟩
def Good4 (u : Un) : Prop := ∃ q d, u = cu q d ∧ Gu q d ∧ ∀ k : Nat, k ≤ 4 → Pw (k : Int) q d ∧ Pw (-(k : Int)) q d
theorem chkU_good {u : Un} (h : chkU u = true) : Good4 u := by
 unfold chkU at h
 split at h
 case h_2 => cases h
 rename_i a b d
 simp only [Bool.and_eq_true, decide_eq_true_eq, List.all_eq_true] at h
 obtain ⟨⟨ha, ha', hb, hb', hg⟩, hd, hp⟩ := h
 obtain ⟨m, rfl⟩ := Int.eq_ofNat_of_zero_le (Int.le_of_lt ha)
 obtain ⟨n, rfl⟩ := Int.eq_ofNat_of_zero_le (Int.le_of_lt hb)
 have hn : n ≠ 0 := by omega
 rw [Int.toNat_natCast, Int.toNat_natCast] at hg
 have e1 : (mkRat (m : Int) n).num.natAbs = m := by rw [mk_num hn, Int.natAbs_natCast, hg, Nat.div_one]
 have e2 : (mkRat (m : Int) n).den = n := by rw [mk_den hn, Int.natAbs_natCast, hg, Nat.div_one]
 have e3 := mk_neg (z := (m : Int)) hn
 have b1 : Bp 1 = 4294967296 := by decide
 generalize hq : mkRat (m : Int) n = q at *
 have hnum : q.num = m := by
  rw [decide_eq_false (by omega)] at e3
  have := of_decide_eq_false e3.symm
  omega
 have hpos : 0 < q := by
  refine (cmpQ_pos q 0).1 ?_
  rw [cmpQ_0, hnum]
  unfold cmpZ
  rw [if_neg (by omega), if_pos (by omega)]
  omega
 have h1 : q.num.natAbs < Bp 1 := by omega
 have h2 : q.den < Bp 1 := by omega
 have hQ : Qs q := ⟨lt_up h1 (by omega), lt_up h2 (by omega)⟩
 have hqi : (1 / q).num.natAbs < Bp 1 ∧ (1 / q).den < Bp 1 := by
  have := Qm_mk (m := 1) (z := (q.den : Int)) (n := q.num.natAbs) (by omega) (by omega) (by omega)
  rw [← one_div_mk hpos] at this
  exact this
 refine ⟨q, d, ?_, ⟨⟨hQ, hd⟩, hpos⟩, fun k hk => ?_⟩
 ·unfold cu
  rw [hnum, e2]
  have : L m = [(m : Int)] := L_one (by omega) (by omega)
  have h3 : L n = [(n : Int)] := L_one hn (by omega)
  rw [cz1, cz2, Int.natAbs_natCast, this, h3, decide_eq_false (by omega)]
 ·have hd1 : Gd (dpow d (k : Int)) := hp _ (by
   have : k = 0 ∨ k = 1 ∨ k = 2 ∨ k = 3 ∨ k = 4 := by omega
   rcases this with rfl | rfl | rfl | rfl | rfl <;> simp)
  have hd2 : Gd (dpow d (-(k : Int))) := hp _ (by
   have : k = 0 ∨ k = 1 ∨ k = 2 ∨ k = 3 ∨ k = 4 := by omega
   rcases this with rfl | rfl | rfl | rfl | rfl <;> simp)
  refine ⟨⟨by omega, ?_, hd1⟩, by omega, ?_, hd2⟩
  ·unfold pw; rw [if_neg (by omega)]
   exact Qs_small h1 h2 _ (by omega)
  ·unfold pw
   split
   ·exact Qs_small hqi.1 hqi.2 _ (by omega)
   ·exact Qs_small h1 h2 _ (by omega)
theorem tget_mem {n : ByteArray} {u : Un} : ∀ {l : Tab}, tget n l = some u → ∃ p ∈ l, p.2 = u
 | [], h => by cases h
 | p :: l, h => by
  unfold tget at h
  split at h
  ·exact ⟨p, List.mem_cons_self .., Option.some.inj h⟩
  ·obtain ⟨x, hx, e⟩ := tget_mem h
   exact ⟨x, List.mem_cons_of_mem _ hx, e⟩
theorem T92_good {n : ByteArray} {u : Un} (h : tget n T92 = some u) : Good4 u := by
 obtain ⟨p, hp, rfl⟩ := tget_mem h
 exact chkU_good (List.all_eq_true.1 chkU_T92 p hp)
theorem Tk_T92 : Tk T92 := fun n u h => by
 obtain ⟨q, d, e, g, _⟩ := T92_good h
 exact ⟨q, d, e, g⟩
theorem wakes_to : Ev (fun k => steelyardlaw12_wakes.f k) true := Ev.of (fun k => steelyardlaw12_wakes.mono k) wakes
theorem Ev.new {α : Type} {g : Nat → Option Tab → Option α} (hg : ∀ k, 200 ≤ k → g k none = g k (some T92)) {r : α} (h : Ev (fun k => g k (some T92)) r) : Ev (fun k => g k none) r := by
 obtain ⟨K, hK⟩ := h
 exact ⟨max K 200, fun k hk => (hg k (by omega)).trans (hK k (by omega))⟩
theorem Parse_none {r : Tab × Un × Int × Int} (h : Ev (fun k => unit_Table_Parse.f k (some T92) s) r) : Ev (fun k => unit_Table_Parse.f k none s) r := Ev.new (g := fun k T => unit_Table_Parse.f k T s) (fun k hk => Parse_new hk s) h
end Go.Proofs.YtpchdjdochkjpaaGreatDoor.Lib
set_option linter.unusedVariables false
set_option linter.unusedSimpArgs false
namespace Go.Proofs.YtpchdjdochkjpaaGreatDoor.Lib
open Go.RowKit Go.Proofs.YtpchdjdochkjpaaGreatDoorW.PrintWords Go.Proofs.YtpchdjdochkjpaaGreatDoorW.PrintMore Go.Proofs.YtpchdjdochkjpaaGreatDoor.P
variable {s n : ByteArray} {q : Rat} {d : Dm} {u : Un} {l : Tab}
def MayP (u : Un) : Prop := ∃ q d, u = cu q d ∧ Gu q d
theorem rSign_to (h : Qs q) : Ev (fun k => steelyardref07_Sign.f k (cz q.num).1 (cz q.num).2 (L q.den)) (cmpQ q 0) := by
 unfold steelyardref07_Sign.f
 refine Ev.bind (rWhole_to (by omega) (by omega)) (Ev.bind (a := cmpQ q 0) ?_ (Ev.now _))
 unfold steelyardref07_Cmp.f
 have h0 : Qs 0 := by decide
 refine Ev.bind (rGood_yes h) (Ev.ifp rfl (Ev.bind (rGood_yes h0) (Ev.ifp rfl (Ev.bind (rLessQ_to (Qs_m h) (Qs_m h0) (by omega)) (Ev.now _)))))
theorem rdGood_eq (d : Dm) : steelyardref11_Good.f d = some (decide (Gd d)) := dGood_eq d
theorem uMay_yes (g : Gu q d) : Ev (fun k => steelyardref12_May.f k (cu q d)) true := by
 unfold steelyardref12_May.f
 refine Ev.bind (rGood_yes g.1.1) (Ev.ifp rfl (Ev.bind (rSign_to g.1.1) (Ev.ifp ((cmpQ_pos _ _).2 g.2) (Ev.bind (Ev.const (rdGood_eq _)) (Ev.const ?_)))))
 show some (decide (Gd d)) = _
 rw [decide_eq_true g.1.2]
theorem uMay_no (hm : S 70 u.m) (hb : S 70 u.b) (h : ¬ MayP u) : Ev (fun k => steelyardref12_May.f k u) false ∧ Ev (fun k => unit_may.f k u) false := by
 have e1 : Ev (fun k => steelyardref07_Good.f k u.g u.m u.b) (gq u.g u.m u.b) := rGood_ev hm hb (by omega)
 have e2 : Ev (fun k => rat_Good.f k u.g u.m u.b) (gq u.g u.m u.b) := qGood_ev hm hb (by omega)
 unfold steelyardref12_May.f unit_may.f
 by_cases c : gq u.g u.m u.b = true
 ·obtain ⟨q, hq, h1, h2, h3⟩ := gq_spec c
  rw [c] at e1
  have s1 := rSign_to hq
  have s2 := qSign_to hq
  rw [← h1, ← h2, ← h3] at s1 s2
  by_cases c2 : 0 < q
  ·have c3 : ¬ Gd u.d := fun hd => h ⟨q, u.d, by cases u; simp only [] at h1 h2 h3; unfold cu; rw [h1, h2, h3], ⟨hq, hd⟩, c2⟩
   have hp := (cmpQ_pos q 0).2 c2
   exact ⟨Ev.bind e1 (Ev.ifp rfl (Ev.bind s1 (Ev.ifp hp (Ev.bind (Ev.const (rdGood_eq _)) (Ev.const (congrArg some (decide_eq_false c3))))))), Ev.bind s2 (Ev.ifp hp (Ev.bind (Ev.const (dGood_eq _)) (Ev.const (congrArg some (decide_eq_false c3)))))⟩
  ·have hp : ¬ cmpQ q 0 > 0 := fun hp => c2 ((cmpQ_pos q 0).1 hp)
   exact ⟨Ev.bind e1 (Ev.ifp rfl (Ev.bind s1 (Ev.ifn hp (Ev.now _)))), Ev.bind s2 (Ev.ifn hp (Ev.now _))⟩
 ·have c' : gq u.g u.m u.b = false := by simpa using c
  rw [c'] at e1 e2
  refine ⟨Ev.bind e1 (Ev.ifn (by decide) (Ev.now _)), ?_⟩
  have s2 : Ev (fun k => rat_Sign.f k u.g u.m u.b) 0 := by
   unfold rat_Sign.f
   exact Ev.bind e2 (Ev.ifn (by decide) (Ev.now _))
  exact Ev.bind s2 (Ev.ifn (by decide) (Ev.now _))
theorem nr_full : ∀ (j : Nat) (l : List Int), nr j l = l.length → (∀ x ∈ l, ano x = true) ∧ l.length ≤ j
 | j, [], h => ⟨by simp, Nat.zero_le _⟩
 | 0, x :: l, h => by unfold nr at h; simp at h
 | j + 1, x :: l, h => by
  rw [nr_cons] at h
  split at h
  ·rename_i c
   simp only [List.length_cons] at h
   obtain ⟨h1, h2⟩ := nr_full j l (by omega)
   exact ⟨by rw [List.forall_mem_cons]; exact ⟨c, h1⟩, by simp only [List.length_cons]; omega⟩
  ·simp at h
theorem Nam_nm (w : List Int) : Nam w ↔ w ≠ [] ∧ nm w = w.length := by
 constructor
 ·intro h
  have := nm_name (t := []) h (by decide)
  rw [List.append_nil] at this
  exact ⟨h.1, this⟩
 ·rintro ⟨h0, h⟩
  cases w with
  | nil => exact absurd rfl h0
  | cons x l =>
   rw [nm_cons] at h
   split at h
   ·rename_i c
    simp only [List.length_cons] at h
    obtain ⟨h1, h2⟩ := nr_full 15 l (by omega)
    exact ⟨h0, by simp only [List.length_cons]; omega, c, by rw [List.forall_mem_cons]; exact ⟨ltr_ano c, h1⟩⟩
   ·simp at h
theorem tget_app {p : ByteArray × Un} : ∀ l : Tab, tget n (l ++ [p]) = match tget n l with | some u => some u | none => if (n == p.1) = true then some p.2 else none
 | [] => rfl
 | x :: l => by
  show tget n (x :: (l ++ [p])) = _
  unfold tget
  split
  ·rfl
  ·exact tget_app l
theorem tget_new (h : tget n l = none) (u : Un) : tget n (l ++ [(n, u)]) = some u := by
 rw [tget_app, h]
 show (if (n == n) = true then some u else none) = _
 exact if_pos (show (n.data == n.data) = true from beq_self_eq_true _)
theorem Tk_new (hl : Tk l) (g : Gu q d) : Tk (l ++ [(n, cu q d)]) := fun m u h => by
 rw [tget_app] at h
 cases e : tget m l with
 | some v => rw [e] at h; exact hl m u (e.trans h)
 | none =>
  rw [e] at h
  simp only [] at h
  split at h
  ·exact ⟨q, d, (Option.some.inj h).symm, g⟩
  ·cases h
theorem Define_bad2 (hu : S 70 u.m) (hv : S 70 u.b) (hs : n.size ≤ 1000000) (h : ¬ (MayP u ∧ Nam (ns n))) : Ev (fun k => unit_Table_Define.f k (some l) n u) (l, 1) := by
 unfold unit_Table_Define.f
 refine Ev.bind (a := l) (Ev.now _) ?_
 by_cases c : MayP u
 ·obtain ⟨q, d, rfl, g⟩ := c
  refine Ev.bind (may_to g) (Ev.ifp rfl ?_)
  by_cases c2 : ns n = []
  ·exact Ev.ifp (ns_nil_iff.2 c2) (Ev.now _)
  ·refine Ev.ifn (fun e => c2 (ns_nil_iff.1 e)) (Ev.bind (name_to hs) (Ev.ifn (fun e => h ⟨⟨q, d, rfl, g⟩, (Nam_nm _).2 ⟨c2, ?_⟩⟩) (Ev.now _)))
   rw [ns_len]; omega
 ·exact Ev.bind (uMay_no hu hv c).2 (Ev.ifn (by decide) (Ev.now _))
theorem Define_had (g : Gu q d) (hs : n.size ≤ 1000000) (hn : Nam (ns n)) {q' : Rat} {d' : Dm} (h : tget n l = some (cu q' d')) (g' : Gu q' d') : Ev (fun k => unit_Table_Define.f k (some l) n (cu q d)) (l, 14) := by
 unfold unit_Table_Define.f
 obtain ⟨h0, h1⟩ := (Nam_nm _).1 hn
 refine Ev.bind (a := l) (Ev.now _) (Ev.bind (may_to g) (Ev.ifp rfl (Ev.ifn (fun e => h0 (ns_nil_iff.1 e)) (Ev.bind (name_to hs) (Ev.ifp ?_ (Ev.bind (Has_yes h g') (Ev.ifp rfl (Ev.now _))))))))
 rw [h1, ns_len]
theorem Define_new (g : Gu q d) (hs : n.size ≤ 1000000) (hn : Nam (ns n)) (h : tget n l = none) : Ev (fun k => unit_Table_Define.f k (some l) n (cu q d)) (l ++ [(n, cu q d)], 0) := by
 unfold unit_Table_Define.f
 obtain ⟨h0, h1⟩ := (Nam_nm _).1 hn
 refine Ev.bind (a := l) (Ev.now _) (Ev.bind (may_to g) (Ev.ifp rfl (Ev.ifn (fun e => h0 (ns_nil_iff.1 e)) (Ev.bind (name_to hs) (Ev.ifp ?_ (Ev.bind (Has_no h) (Ev.ifn (show ¬ (false = true) by decide) (Ev.bind (copied_to g.1.1 d) (Ev.const ?_)))))))))
 ·rw [h1, ns_len]
 ·unfold mput; rw [h]; rfl
theorem names92 : (T92.all fun p => decide (p.1.size ≤ 9223372036854775807)) = true := by decide +kernel
theorem len_T92 : T92.length = 92 := by decide +kernel
theorem Names_92 : Ev (fun k => unit_Table_Names.f k (some T92)) (T92, sortN T92) := ⟨0, fun k _ => names_ok (by rw [len_T92]; decide) names92⟩
end Go.Proofs.YtpchdjdochkjpaaGreatDoor.Lib

/- The abstract machine: a function's body stepped through, beside the plain function that it is. · The abstract machine: the rules by which a body is stepped through beside a plain function. · The abstract machine: regions with a draw. · The abstract machine: a region with a draw comes to what its list order comes to. · The abstract machine: linked values: a pointer or a slice of the call's own that lies in a cell of its rows. · The abstract machine: the rules again, as a walk takes them; what it reckons with. · The abstract machine: the rules, each with what a walk does at it. -/
import Derived.Test.YtpchdjdochkjpaaGreatDoorMa
import Derived.Test.YtpchdjdochkjpaaGreatDoorYWords
set_option linter.unusedVariables false
set_option linter.unusedSimpArgs false
namespace Go.Proofs.YtpchdjdochkjpaaGreatDoor.Am
open Go Go.RowKit
structure Fx where
  X : Cx
  f : Nat
  fn : Func
  ins : List Row
  hf : X.P.funcs[f]? = some fn
def Post (X : Cx) (ins : List Row) (res : AV) (outs : List Row) (xq : Rs → Prop) (v : Value) (w' : World) : Prop :=
  ∃ (β' : Nat → Option Own) (fz' : Nat → Prop), Bel X.wr X.w0 w' ∧ (∀ b, X.fz0 b → fz' b) ∧ (∀ b, fz' b → b < w'.heap.size ∧ (b < X.w0.heap.size → X.fz0 b)) ∧ ins.length ≤ outs.length ∧
    (∀ t, t < ins.length → β' t = X.β0 t ∧ lens outs t = lens ins t) ∧ V w' fz' β' (lens outs) res v ∧ (∀ t r, outs[t]? = some r → RowOk w' fz' β' t r) ∧ Inj outs.length β' ∧
    (∀ t o, t < outs.length → β' t = some o → ¬ fz' o.blk ∧ (ins.length ≤ t → X.w0.heap.size ≤ o.blk)) ∧
    ∃ x', xq x' ∧ x'.ok w' fz' ∧ ∀ b, x'.bl w' b → b < w'.heap.size ∧ ¬ fz' b ∧ (X.w0.heap.size ≤ b ∨ X.wr b) ∧ ∀ t o, t < outs.length → β' t = some o → o.blk ≠ b
def AW (E : Fx) (todo : List Item) (s : St) (res : AV) (outs : List Row) (xq : Rs → Prop) : Prop :=
  ∀ fz β a w, Rel E.X s fz β a w → ∀ (b : Frame) (cs : List Frame), b.fn = E.f → b.kind = .normal →
    ∃ v w' fr, Steps E.X.P (lone (b.at a todo) cs w) (lone fr cs w') ∧ fr.fn = E.f ∧ fr.leaving E.X.P w' (.returned v) ∧ Post E.X E.ins res outs xq v w'
def Le (X : Cx) (s s' : St) : Prop := ∀ fz β a w, Rel X s fz β a w → ∃ fz' β', Rel X s' fz' β' a w
theorem Le.refl (X : Cx) (s : St) : Le X s s := fun fz β a w h => ⟨fz, β, h⟩
theorem Le.trans {X : Cx} {s1 s2 s3 : St} (h1 : Le X s1 s2) (h2 : Le X s2 s3) : Le X s1 s3 := fun fz β a w h => by
  obtain ⟨fz', β', h'⟩ := h1 fz β a w h
  exact h2 _ _ _ _ h'
section
variable {E : Fx} {k : List Item} {s s' : St} {res : AV} {outs : List Row} {xq : Rs → Prop}
theorem AW.le {todo : List Item} (h : AW E todo s' res outs xq) (hl : Le E.X s s') : AW E todo s res outs xq := fun fz β a w hR b cs hb hk => by
  obtain ⟨fz', β', hR'⟩ := hl _ _ _ _ hR
  exact h _ _ _ _ hR' b cs hb hk
theorem AW.step {todo todo' : List Item} (hs : ∀ (b : Frame) (a : Act) (cs : List Frame) (w : World), step E.X.P (lone (b.at a todo) cs w) = .next (lone (b.at a todo') cs w)) (h : AW E todo' s res outs xq) : AW E todo s res outs xq := fun fz β a w hR b cs hb hk => by
  obtain ⟨v, w', fr, h1, h2⟩ := h _ _ _ _ hR b cs hb hk
  exact ⟨v, w', fr, .head (hs b a cs w) h1, h2⟩
theorem aw_skip (h : AW E k s res outs xq) : AW E (.code .skip :: k) s res outs xq := h.step fun _ _ _ _ => step_skip
theorem aw_seq {x y : Code} (h : AW E (.code x :: .code y :: k) s res outs xq) : AW E (.code (.seq x y) :: k) s res outs xq := h.step fun _ _ _ _ => step_seq
theorem aw_block {id : Nat} {c : Code} (h : AW E (.code c :: .inBlock id :: k) s res outs xq) : AW E (.code (.block id c) :: k) s res outs xq := h.step fun _ _ _ _ => step_block
theorem aw_inBlock {id : Nat} (h : AW E k s res outs xq) : AW E (.inBlock id :: k) s res outs xq := h.step fun _ _ _ _ => step_inBlock
theorem aw_exit {id : Nat} {k' : List Item} (hk : exitTo id k = some k') (h : AW E k' s res outs xq) : AW E (.code (.exit id) :: k) s res outs xq := h.step fun _ _ _ _ => step_exit hk
theorem aw_loop {c : Code} (h : AW E (.code c :: .inLoop c :: k) s res outs xq) : AW E (.code (.loop c) :: k) s res outs xq := h.step fun _ _ _ _ => step_loop
theorem aw_inLoop {c : Code} (h : AW E (.code c :: .inLoop c :: k) s res outs xq) : AW E (.inLoop c :: k) s res outs xq := h.step fun _ _ _ _ => step_inLoop
theorem aw_cond {c : Operand} {x y : Code} {t : Bool} (hc : ev E.X.N E.X.G s.env c = .bool t) (h : AW E (.code (if t then x else y) :: k) s res outs xq) : AW E (.code (.cond c x y) :: k) s res outs xq := fun fz β a w hR b cs hb hk => by
  have hv := ev_V hR c
  rw [hc] at hv
  obtain ⟨v, w', fr, h1, h2⟩ := h _ _ _ _ hR b cs hb hk
  exact ⟨v, w', fr, .head (step_cond hv.bool_inv) h1, h2⟩
end
def chkR (s : St) : List Nat → List Row → Prop
  | [], [] => True
  | t :: τ, r :: rs => s.H t = some r ∧ s.fr t = false ∧ chkR s τ rs
  | _, _ => False
theorem chkR_get {s : St} : ∀ {τ : List Nat} {rs : List Row}, chkR s τ rs → τ.length = rs.length ∧ ∀ j r, rs[j]? = some r → s.H (τ.getD j 0) = some r ∧ s.fr (τ.getD j 0) = false
  | [], [], _ => ⟨rfl, fun j r h => by simp at h⟩
  | [], _ :: _, h => by simp [chkR] at h
  | _ :: _, [], h => by simp [chkR] at h
  | t :: τ, r :: rs, h => by
    obtain ⟨h1, h2, h3⟩ := h
    obtain ⟨g1, g2⟩ := chkR_get h3
    refine ⟨by simp [g1], fun j q hq => ?_⟩
    cases j with
    | zero => simp at hq; subst hq; exact ⟨h1, h2⟩
    | succ j => exact g2 j q (by simpa using hq)
def comps : AV → List AV
  | .tup cs => cs
  | x => [x]
def convR (τ : List Nat) (H : Nat → Option Row) : AV → Option AV
  | .tup cs => (convL τ H cs).map .tup
  | x => conv τ H x
section
variable {X : Cx} {s : St} {fz : Nat → Prop} {β : Nat → Option Own} {a : Act} {w : World}
theorem convs_V (hR : Rel X s fz β a w) {τ : List Nat} {rows : List Row} (hc : chkR s τ rows) {l : List AV} {vs : List Value} (hP : Pw w fz β s.dm l vs) (htag : tagOk (lentT τ l) = true) (hag : aggFree τ l = true) :
    ∃ fz' : Nat → Prop, (∀ b, fz b → fz' b) ∧ Rel X { s with fr := frz s.fr (lentT τ l) } fz' β a w ∧ (∀ t ∈ τ, ∀ o, β t = some o → ¬ fz' o.blk) ∧
      ∀ x ∈ l, ∀ v y (β' : Nat → Option Own) (dm' : Nat → Option Nat), V w fz β s.dm x v → conv τ s.H x = some y → (∀ j, j < τ.length → β' j = β (τ.getD j 0) ∧ dm' j = lens rows j) → V w fz' β' dm' y v := by
  obtain ⟨hl, hget⟩ := chkR_get hc
  obtain ⟨fz', f1, f2, f3⟩ := hR.freeze _ htag
  have hlt : ∀ t ∈ lentT τ l, t ∉ τ ∧ t ∈ l.flatMap tags := fun t ht => by
    simp only [lentT, List.mem_filter, Bool.not_eq_true', ← Bool.not_eq_true, List.contains_iff_mem] at ht
    exact ⟨ht.2, ht.1⟩
  have hτ : ∀ t ∈ τ, τ.idxOf t < τ.length ∧ τ.getD (τ.idxOf t) 0 = t ∧ ∃ r, rows[τ.idxOf t]? = some r ∧ s.H t = some r ∧ s.fr t = false := fun t ht => by
    have hj : τ.idxOf t < τ.length := List.idxOf_lt_length_iff.2 ht
    have hg : τ.getD (τ.idxOf t) 0 = t := by simp [hj]
    have hjr : τ.idxOf t < rows.length := by omega
    have := hget (τ.idxOf t) rows[τ.idxOf t] (by simp [hjr])
    rw [hg] at this
    exact ⟨hj, hg, rows[τ.idxOf t], by simp [hjr], this.1, this.2⟩
  refine ⟨fz', f1, f3, fun t ht o hb => ?_, fun x hx v y β' dm' hV hcv hβ => ?_⟩
  · obtain ⟨_, _, r, _, hH, hfr⟩ := hτ t ht
    refine (f3.fl t o (by simp only; rw [hH]; simp) hb).1 ?_
    simp only
    rw [frz_mem _ _ _ (fun hm => (hlt t hm).1 ht)]
    exact hfr
  · have hall : ∀ t ∈ tags x, t ∈ l.flatMap tags := fun t ht => List.mem_flatMap.2 ⟨x, hx, ht⟩
    have mk : (∀ t ∈ tags x, t ∉ τ) → Lent s.H w fz fz' β s.dm (tags x) := fun hnot =>
      hR.lent_of f1 hV (fun t ht o h1 h2 => f2 t (by simp only [lentT, List.mem_filter, Bool.not_eq_true', ← Bool.not_eq_true, List.contains_iff_mem]; exact ⟨hall t ht, hnot t ht⟩) o h1 h2)
    refine conv_V hV (fun t n ht hn => ?_) mk (fun cs hcs => ?_) hcv
    · obtain ⟨hj, hg, r, hr, hH, _⟩ := hτ t ht
      obtain ⟨h1, h2⟩ := hβ _ hj
      rw [h1, h2, hg]
      refine ⟨?_, rfl⟩
      simp only [lens, hr, Option.map_some]
      simp only [St.dm, hH, Option.map_some] at hn
      exact hn
    · subst hcs
      refine mk (fun t ht htτ => ?_)
      simp only [aggFree, List.all_eq_true] at hag
      have := hag _ hx
      simp only [List.all_eq_true] at this
      have := this t ht
      simp only [Bool.not_eq_true', ← Bool.not_eq_true, List.contains_iff_mem] at this
      exact this htτ
end
def okRet (n : Nat) (τ : List Nat) : Bool := decide (τ.take n = List.range n) && (τ.drop n).all (fun t => decide (16 ≤ t)) && decide τ.Nodup && decide (n ≤ 16)
theorem aw_out {E : Fx} {todo : List Item} (hst : ∀ (b : Frame) (a : Act) (cs : List Frame) (w : World), step E.X.P (lone (b.at a todo) cs w) = .next (lone { b.at a todo with mode := .returning } cs w)) {s : St} {r res : AV} {outs : List Row} {xq : Rs → Prop} (τ : List Nat) (hr : resV E.X s E.fn.results.toList = some r) (hc : chkR s τ outs) (hcv : convR τ s.H r = some res)
    (htag : tagOk (lentT τ (comps r)) = true) (hag : aggFree τ (comps r) = true) (hok : okRet E.ins.length τ = true) (hlen : (outs.take E.ins.length).map (·.xs.length) = E.ins.map (·.xs.length)) (hn : E.ins.length ≤ outs.length) (hxq : xq s.x) :
    AW E todo s res outs xq := fun fz β a w hR b cs hb hk => by
  obtain ⟨v, hv, hV⟩ := resV_ok hR (fn := E.fn) hr
  simp only [okRet, Bool.and_eq_true, decide_eq_true_eq, List.all_eq_true] at hok
  obtain ⟨⟨⟨hk1, hk2⟩, hk3⟩, hk4⟩ := hok
  obtain ⟨hτl, hget⟩ := chkR_get hc
  have hP : ∃ vs, Pw w fz β s.dm (comps r) vs ∧ ∀ (fz' : Nat → Prop) (β' : Nat → Option Own) (dm' : Nat → Option Nat), (∀ x ∈ comps r, ∀ u y, V w fz β s.dm x u → conv τ s.H x = some y → V w fz' β' dm' y u) → V w fz' β' dm' res v := by
    cases r with
    | tup xs =>
      obtain ⟨vs, rfl, hl, hV'⟩ := hV.tup_inv
      refine ⟨vs, ⟨hl, hV'⟩, fun fz' β' dm' h => ?_⟩
      simp only [convR] at hcv
      cases hq : convL τ s.H xs with
      | none => rw [hq] at hcv; cases hcv
      | some ys =>
        rw [hq] at hcv
        obtain rfl := Option.some.inj hcv
        obtain ⟨g1, g2⟩ := convL_get hq
        refine .tup ys vs (by omega) (fun i y u h1 h2 => ?_)
        obtain ⟨x, hx, hxy⟩ := g2 i y h1
        exact h x (List.mem_of_getElem? hx) u y (hV' i x u hx h2) hxy
    | _ => exact ⟨[v], Pw.cons hV Pw.nil, fun fz' β' dm' h => h _ (by simp [comps]) v res hV hcv⟩
  obtain ⟨vs, hP1, hP2⟩ := hP
  obtain ⟨fz', f1, f2, f3, f4⟩ := convs_V hR hc hP1 htag hag
  have hτget : ∀ j (hj : j < τ.length), τ.getD j 0 = τ[j] := fun j hj => by simp [hj]
  have hlo : ∀ j, j < E.ins.length → τ.getD j 0 = j := fun j hj => by
    have hjt : j < τ.length := by omega
    rw [hτget j hjt]
    have := congrArg (fun l => l[j]?) hk1
    simp [hj] at this
    rw [List.getElem?_eq_getElem hjt] at this
    exact Option.some.inj this
  have hhi : ∀ j, E.ins.length ≤ j → j < τ.length → 16 ≤ τ.getD j 0 := fun j h1 h2 => by
    rw [hτget j h2]
    refine hk2 _ (List.mem_of_getElem? (i := j - E.ins.length) ?_)
    rw [List.getElem?_drop, show E.ins.length + (j - E.ins.length) = j by omega, List.getElem?_eq_getElem h2]
  have hne : ∀ j, j < τ.length → s.H (τ.getD j 0) ≠ none := fun j hj => by
    have hjr : j < outs.length := by omega
    rw [(hget j outs[j] (by simp [hjr])).1]; simp
  refine ⟨v, w, { b.at a todo with mode := .returning }, .one (hst _ _ _ _), hb, ⟨rfl, hR.df, hk, E.fn, by rw [show ({ b.at a todo with mode := .returning } : Frame).fn = E.f from hb]; exact E.hf, hv⟩,
    fun j => if j < τ.length then β (τ.getD j 0) else none, fz', hR.bel, fun b hb' => f1 b (hR.f0 b hb'), f2.fs, hn, fun t ht => ?_, hP2 fz' _ _ (fun x hx u y h1 h2 => f4 x hx u y _ _ h1 h2 (fun j hj => ⟨if_pos hj, rfl⟩)), fun t r hr => ?_, fun t t' o o' ht ht' hb1 hb2 he => ?_, fun t o ht hbo => ?_, s.x, hxq, f2.xo.1, fun b hb => ?_⟩
  · have htt : t < τ.length := by omega
    dsimp only
    rw [if_pos htt, hlo t ht]
    refine ⟨hR.bi t (by omega), ?_⟩
    have := congrArg (fun l => l[t]?) hlen
    simp only [List.getElem?_map, List.getElem?_take, if_pos ht] at this
    exact this
  · have htt : t < τ.length := by have := (List.getElem?_eq_some_iff.1 hr).1; omega
    have h1 := f2.rw (τ.getD t 0) r (hget t r hr).1
    unfold RowOk at h1 ⊢
    dsimp only
    rw [if_pos htt]
    exact h1
  · dsimp only at hb1 hb2
    rw [if_pos (by omega)] at hb1 hb2
    have := hR.ij _ _ o o' (hne t (by omega)) (hne t' (by omega)) hb1 hb2 he
    have h1 : t < τ.length := by omega
    have h2 : t' < τ.length := by omega
    rw [hτget t h1, hτget t' h2] at this
    exact (List.getElem_inj hk3).1 this
  · have htt : t < τ.length := by omega
    dsimp only at hbo
    rw [if_pos htt] at hbo
    refine ⟨f3 _ (by rw [hτget t htt]; exact List.getElem_mem htt) o hbo, fun hge => (hR.lo _ o (hne t htt) hbo).1 (hhi t hge htt)⟩
  · obtain ⟨k1, k2, k3, k4⟩ := f2.xo.2 b hb
    refine ⟨k1, k2, k3, fun t o ht hbo => ?_⟩
    have htt : t < τ.length := by omega
    dsimp only at hbo
    rw [if_pos htt] at hbo
    exact k4 _ o (hne t htt) hbo
def envL : List (Nat × AV) → Nat → AV
  | [] => fun _ => .dead
  | p :: l => upd (envL l) p.1 p.2
def rowsL : List Nat → List Row → Nat → Option Row
  | t :: τ, r :: rs => upd (rowsL τ rs) t (some r)
  | _, _ => fun _ => none
def mkS (L : List (Nat × AV)) (ν : List Nat) (rows : List Row) (x : Rs := Rs.no) : St := { env := envL L, H := rowsL ν rows, fr := fun _ => false, x := x }
def mpS (ν : List Nat) : AV → AV
  | .own t off n => .own (ν.getD t 0) off n
  | .optr t i o => .optr (ν.getD t 0) i o
  | .lk x v => .lk (mpS ν x) v
  | .agg _ => .dead
  | .tup _ => .dead
  | x => x
def mpA (ν : List Nat) : AV → AV
  | .agg cs => .agg (cs.map (mpS ν))
  | x => mpS ν x
theorem mpS_V {w : World} {fz : Nat → Prop} {β β' : Nat → Option Own} {dm dm' : Nat → Option Nat} {ν : List Nat} (hr : ∀ t n, dm t = some n → dm' (ν.getD t 0) = some n ∧ β' (ν.getD t 0) = β t) {x : AV} {v : Value} (h : V w fz β dm x v) : V w fz β' dm' (mpS ν x) v := by
  induction h with
  | f _ _ hf => cases hf <;> first | exact .dead _ | exact .f _ _ (by first | exact .nil | exact .int _ _ | exact .bool _ | exact .str _ | exact .sl0 _ _ | (constructor <;> assumption))
  | dead => exact .dead _
  | undef => exact .undef
  | own0 t n hd hb => exact .own0 _ n (hr t n hd).1 ((hr t n hd).2.trans hb)
  | own t off len ao c o n hd hb ha hl hc hn => exact .own _ off len ao c o n (hr t n hd).1 ((hr t n hd).2.trans hb) ha hl hc hn
  | optr t i k o n hd hb hn => exact .optr _ i k o n (hr t n hd).1 ((hr t n hd).2.trans hb) hn
  | lk x v h h1 h2 ih => exact .lk _ _ ih h1 h2
  | agg => exact .dead _
  | tup => exact .dead _
theorem mpA_V {w : World} {fz : Nat → Prop} {β β' : Nat → Option Own} {dm dm' : Nat → Option Nat} {ν : List Nat} (hr : ∀ t n, dm t = some n → dm' (ν.getD t 0) = some n ∧ β' (ν.getD t 0) = β t) {x : AV} {v : Value} (h : V w fz β dm x v) : V w fz β' dm' (mpA ν x) v := by
  unfold mpA
  split
  · rename_i cs
    obtain ⟨vs, rfl, hl, hV⟩ := h.agg_inv
    refine .agg _ vs (by simp [hl]) (fun i x v h1 h2 => ?_)
    rw [List.getElem?_map] at h1
    cases hq : cs[i]? with
    | none => rw [hq] at h1; cases h1
    | some q => rw [hq] at h1; obtain rfl := Option.some.inj h1; exact mpS_V hr (hV i q v hq h2)
  · exact mpS_V hr h
def chkL (N : Nat) (s : St) (τ ν : List Nat) : List (Nat × AV) → Prop
  | [] => True
  | p :: L => (p.1 < N ∧ ∃ y, conv τ s.H (s.env p.1) = some y ∧ mpA ν y = p.2) ∧ chkL N s τ ν L
theorem chkL_mem {N : Nat} {s : St} {τ ν : List Nat} : ∀ {L : List (Nat × AV)}, chkL N s τ ν L → ∀ p ∈ L, p.1 < N ∧ ∃ y, conv τ s.H (s.env p.1) = some y ∧ mpA ν y = p.2
  | [], _, p, h => by simp at h
  | q :: L, h, p, hp => by
    rcases List.mem_cons.1 hp with rfl | hp
    · exact h.1
    · exact chkL_mem h.2 p hp
theorem envL_mem : ∀ {L : List (Nat × AV)} (i : Nat), envL L i = .dead ∨ (i, envL L i) ∈ L
  | [], i => .inl rfl
  | p :: L, i => by
    simp only [envL, upd_apply]
    by_cases h : i = p.1
    · rw [if_pos h]; right; rw [h]; exact List.mem_cons_self
    · rw [if_neg h]
      rcases envL_mem (L := L) i with h' | h'
      · exact .inl h'
      · exact .inr (List.mem_cons_of_mem _ h')
def okT (τ ν : List Nat) : Bool := decide (τ.length = ν.length) && decide τ.Nodup && decide ν.Nodup && (τ.zip ν).all (fun p => decide (p.1 = p.2) || (decide (16 ≤ p.1) && decide (16 ≤ p.2)))
theorem rowsL_get : ∀ {ν : List Nat} {rows : List Row}, ν.length = rows.length → ν.Nodup → ∀ t r, rowsL ν rows t = some r → ∃ j, j < ν.length ∧ ν.getD j 0 = t ∧ rows[j]? = some r
  | [], [], _, _, t, r, h => by simp [rowsL] at h
  | [], _ :: _, h, _, _, _, _ => by simp at h
  | _ :: _, [], h, _, _, _, _ => by simp at h
  | u :: ν, q :: rows, hl, hn, t, r, h => by
    simp only [rowsL, upd_apply] at h
    by_cases c : t = u
    · rw [if_pos c] at h
      exact ⟨0, by simp, by simp [c], by simpa using h⟩
    · rw [if_neg c] at h
      simp only [List.nodup_cons] at hn
      obtain ⟨j, h1, h2, h3⟩ := rowsL_get (by simpa using hl) hn.2 t r h
      exact ⟨j + 1, by simp [h1], by simpa using h2, by simpa using h3⟩
theorem rowsL_at : ∀ {ν : List Nat} {rows : List Row}, ν.length = rows.length → ν.Nodup → ∀ j, j < ν.length → rowsL ν rows (ν.getD j 0) = rows[j]?
  | [], [], _, _, j, h => by simp at h
  | [], _ :: _, h, _, _, _ => by simp at h
  | _ :: _, [], h, _, _, _ => by simp at h
  | u :: ν, q :: rows, hl, hn, j, hj => by
    simp only [List.nodup_cons] at hn
    cases j with
    | zero => simp [rowsL, upd_apply]
    | succ j =>
      have hj' : j < ν.length := by simpa using hj
      have := rowsL_at (by simpa using hl) hn.2 j hj'
      simp only [rowsL, upd_apply, List.getD_cons_succ, List.getElem?_cons_succ]
      rw [if_neg, this]
      intro e
      apply hn.1
      rw [← e]
      have : ν.getD j 0 = ν[j] := by simp [hj']
      rw [this]; exact List.getElem_mem hj'
theorem Rel.vals {X : Cx} {s : St} {fz : Nat → Prop} {β : Nat → Option Own} {a : Act} {w : World} (h : Rel X s fz β a w) : ∃ g : Nat → Value, (∀ i, V w fz β s.dm (s.env i) (g i)) ∧ ∀ i, i < X.N → g i = a.tmps.getD i undef := by
  refine ⟨fun i => if hi : i < X.N then a.tmps.getD i undef else Classical.choose (h.vt i (Nat.le_of_not_lt hi)), fun i => ?_, fun i hi => by simp only [dif_pos hi]⟩
  by_cases hi : i < X.N
  · simp only [dif_pos hi]; exact h.tm i hi
  · simp only [dif_neg hi]; exact Classical.choose_spec (h.vt i (Nat.le_of_not_lt hi))
theorem Le.canon {X : Cx} {s : St} {N0 : Nat} {L : List (Nat × AV)} (τ ν : List Nat) {rows : List Row} (hok : okT τ ν = true) (hc : chkR s τ rows) (hL : chkL N0 s τ ν L)
    (htag : tagOk (lentT τ (L.map fun p => s.env p.1)) = true) (hag : aggFree τ (L.map fun p => s.env p.1) = true) : Le X s (mkS L ν rows s.x) := fun fz β a w hR => by
  simp only [okT, Bool.and_eq_true, decide_eq_true_eq, List.all_eq_true, Bool.or_eq_true] at hok
  obtain ⟨⟨⟨hl, hnτ⟩, hnν⟩, hz⟩ := hok
  obtain ⟨hτl, hget⟩ := chkR_get hc
  have hνl : ν.length = rows.length := by omega
  obtain ⟨g, hg, hgt⟩ := hR.vals
  have hP : Pw w fz β s.dm (L.map fun p => s.env p.1) (L.map fun p => g p.1) := Pw.of_map L (fun p hp => hg p.1)
  obtain ⟨fz', f1, f2, f3, f4⟩ := convs_V hR hc hP htag hag
  have hzj : ∀ j, j < τ.length → τ.getD j 0 = ν.getD j 0 ∨ (16 ≤ τ.getD j 0 ∧ 16 ≤ ν.getD j 0) := fun j hj => by
    have hj' : j < ν.length := by omega
    have e1 : τ.getD j 0 = τ[j] := by simp [hj]
    have e2 : ν.getD j 0 = ν[j] := by simp [hj']
    rw [e1, e2]
    refine hz (τ[j], ν[j]) (List.mem_of_getElem? (i := j) ?_)
    simp [List.getElem?_zip_eq_some, hj, hj']
  have hne : ∀ j, j < τ.length → s.H (τ.getD j 0) ≠ none := fun j hj => by
    have hjr : j < rows.length := by omega
    rw [(hget j rows[j] (by simp [hjr])).1]; simp
  let βc : Nat → Option Own := fun j => if j < τ.length then β (τ.getD j 0) else none
  let β' : Nat → Option Own := fun t => if t ∈ ν then β (τ.getD (ν.idxOf t) 0) else β t
  have hβ' : ∀ j, j < ν.length → β' (ν.getD j 0) = β (τ.getD j 0) := fun j hj => by
    have e2 : ν.getD j 0 = ν[j] := by simp [hj]
    have : ν.idxOf ν[j] = j := List.Nodup.idxOf_getElem hnν j hj
    simp only [β', e2, if_pos (List.getElem_mem hj), this]
  have hdm : ∀ j n, lens rows j = some n → (mkS L ν rows s.x).dm (ν.getD j 0) = some n := fun j n hj => by
    have hjr : j < ν.length := by
      simp only [lens] at hj
      rcases Nat.lt_or_ge j rows.length with h | h
      · omega
      · rw [List.getElem?_eq_none h] at hj; cases hj
    simp only [St.dm, mkS]
    rw [rowsL_at hνl hnν j hjr]
    exact hj
  have env_ : ∀ i, V w fz' β' (mkS L ν rows s.x).dm (envL L i) (g i) := fun i => by
    rcases envL_mem (L := L) i with h | h
    · rw [h]; exact .dead _
    · obtain ⟨hN, y, hy1, hy2⟩ := chkL_mem hL _ h
      have hV := f4 (s.env i) (List.mem_map.2 ⟨_, h, rfl⟩) (g i) y βc (lens rows) (hg i) hy1 (fun j hj => ⟨if_pos hj, rfl⟩)
      have := mpA_V (β' := β') (dm' := (mkS L ν rows s.x).dm) (ν := ν) (fun t n hn => ?_) hV
      · simp only at hy2
        rw [← hy2]; exact this
      · refine ⟨hdm t n hn, ?_⟩
        have htr : t < τ.length := by
          simp only [lens] at hn
          rcases Nat.lt_or_ge t rows.length with h | h
          · omega
          · rw [List.getElem?_eq_none h] at hn; cases hn
        rw [hβ' t (by omega)]
        exact (if_pos htr).symm
  refine ⟨fz', β', hR.bel, hR.sz, hR.df, fun i hi => hgt i hi ▸ env_ i, fun t r hr => ?_, fun t t' o o' ht ht' hb1 hb2 he => ?_, fun t o ht hb => ?_, fun t o ht hb => ?_, f2.fs, f2.f0, f2.gl, fun t ht => ?_, fun i hi => ⟨g i, env_ i⟩, f2.xo.1, fun b hb' => ⟨(f2.xo.2 b hb').1, (f2.xo.2 b hb').2.1, (f2.xo.2 b hb').2.2.1, fun t o ht hb => ?_⟩⟩
  rotate_right
  · have ht : rowsL ν rows t ≠ none := ht
    obtain ⟨r, hr⟩ := Option.ne_none_iff_exists'.1 ht
    obtain ⟨j, h1, rfl, h3⟩ := rowsL_get hνl hnν t r hr
    rw [hβ' j h1] at hb
    exact (f2.xo.2 b hb').2.2.2 _ o (hne j (by omega)) hb
  · obtain ⟨j, h1, rfl, h3⟩ := rowsL_get hνl hnν t r hr
    have := f2.rw _ r (hget j r h3).1
    unfold RowOk at this ⊢
    rw [hβ' j h1]
    exact this
  · have ht : rowsL ν rows t ≠ none := ht
    have ht' : rowsL ν rows t' ≠ none := ht'
    obtain ⟨r, hr⟩ := Option.ne_none_iff_exists'.1 ht
    obtain ⟨r', hr'⟩ := Option.ne_none_iff_exists'.1 ht'
    obtain ⟨j, h1, rfl, h3⟩ := rowsL_get hνl hnν t r hr
    obtain ⟨j', h1', rfl, h3'⟩ := rowsL_get hνl hnν t' r' hr'
    rw [hβ' j h1] at hb1
    rw [hβ' j' h1'] at hb2
    have := hR.ij _ _ o o' (hne j (by omega)) (hne j' (by omega)) hb1 hb2 he
    have hj : j < τ.length := by omega
    have hj' : j' < τ.length := by omega
    have e1 : τ.getD j 0 = τ[j] := by simp [hj]
    have e2 : τ.getD j' 0 = τ[j'] := by simp [hj']
    rw [e1, e2] at this
    have := (List.getElem_inj hnτ).1 this
    subst this
    rfl
  · have ht : rowsL ν rows t ≠ none := ht
    obtain ⟨r, hr⟩ := Option.ne_none_iff_exists'.1 ht
    obtain ⟨j, h1, rfl, h3⟩ := rowsL_get hνl hnν t r hr
    rw [hβ' j h1] at hb
    have := hR.lo _ o (hne j (by omega)) hb
    refine ⟨fun h16 => this.1 ?_, this.2⟩
    rcases hzj j (by omega) with h | h
    · rw [h]; exact h16
    · exact h.1
  · have ht : rowsL ν rows t ≠ none := ht
    obtain ⟨r, hr⟩ := Option.ne_none_iff_exists'.1 ht
    obtain ⟨j, h1, rfl, h3⟩ := rowsL_get hνl hnν t r hr
    rw [hβ' j h1] at hb
    refine ⟨fun _ => f3 _ ?_ o hb, fun h => by cases h⟩
    have hj : j < τ.length := by omega
    have e1 : τ.getD j 0 = τ[j] := by simp [hj]
    rw [e1]; exact List.getElem_mem hj
  · show β' t = _
    simp only [β']
    by_cases hm : t ∈ ν
    · rw [if_pos hm]
      have hj : ν.idxOf t < ν.length := List.idxOf_lt_length_iff.2 hm
      have hg : ν.getD (ν.idxOf t) 0 = t := by simp [hj]
      rcases hzj (ν.idxOf t) (by omega) with h | h
      · rw [h, hg]; exact hR.bi t ht
      · rw [hg] at h; omega
    · rw [if_neg hm]; exact hR.bi t ht
theorem aw_ret {E : Fx} {k : List Item} {s : St} {r res : AV} {outs : List Row} {xq : Rs → Prop} (τ : List Nat) (hr : resV E.X s E.fn.results.toList = some r) (hc : chkR s τ outs) (hcv : convR τ s.H r = some res)
    (htag : tagOk (lentT τ (comps r)) = true) (hag : aggFree τ (comps r) = true) (hok : okRet E.ins.length τ = true) (hlen : (outs.take E.ins.length).map (·.xs.length) = E.ins.map (·.xs.length)) (hn : E.ins.length ≤ outs.length) (hxq : xq s.x) :
    AW E (.code .ret :: k) s res outs xq := aw_out (fun _ _ _ _ => step_ret) τ hr hc hcv htag hag hok hlen hn hxq
theorem aw_end {E : Fx} {s : St} {r res : AV} {outs : List Row} {xq : Rs → Prop} (τ : List Nat) (hr : resV E.X s E.fn.results.toList = some r) (hc : chkR s τ outs) (hcv : convR τ s.H r = some res)
    (htag : tagOk (lentT τ (comps r)) = true) (hag : aggFree τ (comps r) = true) (hok : okRet E.ins.length τ = true) (hlen : (outs.take E.ins.length).map (·.xs.length) = E.ins.map (·.xs.length)) (hn : E.ins.length ≤ outs.length) (hxq : xq s.x) :
    AW E [] s res outs xq := aw_out (fun _ _ _ _ => step_end) τ hr hc hcv htag hag hok hlen hn hxq
end Go.Proofs.YtpchdjdochkjpaaGreatDoor.Am
set_option linter.unusedVariables false
set_option linter.unusedSimpArgs false
namespace Go.Proofs.YtpchdjdochkjpaaGreatDoor.Am
open Go Go.RowKit
def leS : AV → AV → Prop
  | .nil, .sl _ _ xs => xs = []
  | x, y => x = y
def leL : List AV → List AV → Prop
  | [], [] => True
  | x :: xs, y :: ys => leS x y ∧ leL xs ys
  | _, _ => False
def leA : AV → AV → Prop
  | .agg cs, .agg ds => leL cs ds
  | x, y => leS x y
def leAL : List AV → List AV → Prop
  | [], [] => True
  | x :: xs, y :: ys => leA x y ∧ leAL xs ys
  | _, _ => False
def leR : AV → AV → Prop
  | .tup cs, .tup ds => leAL cs ds
  | x, y => leA x y
theorem leS_refl (x : AV) : leS x x := by cases x <;> rfl
theorem leL_refl : ∀ (l : List AV), leL l l
  | [] => trivial
  | x :: l => ⟨leS_refl x, leL_refl l⟩
theorem leA_refl (x : AV) : leA x x := by cases x <;> first | exact leL_refl _ | rfl
theorem leAL_refl : ∀ (l : List AV), leAL l l
  | [] => trivial
  | x :: l => ⟨leA_refl x, leAL_refl l⟩
theorem leR_refl (x : AV) : leR x x := by cases x <;> simp only [leR, leA_refl, leAL_refl]
section
variable {w : World} {fz : Nat → Prop} {β : Nat → Option Own} {dm : Nat → Option Nat}
theorem leS_V {x y : AV} {v : Value} (h : leS x y) (hV : V w fz β dm x v) : V w fz β dm y v := by
  unfold leS at h
  split at h
  · subst h
    rw [hV.nil_inv]
    exact .f _ _ (.sl0 _ _)
  · subst h; exact hV
theorem leL_get : ∀ {l l' : List AV}, leL l l' → l.length = l'.length ∧ ∀ (i : Nat) (y : AV), l'[i]? = some y → ∃ x, l[i]? = some x ∧ leS x y
  | [], [], _ => ⟨rfl, fun i y h => by simp at h⟩
  | [], _ :: _, h => by simp [leL] at h
  | _ :: _, [], h => by simp [leL] at h
  | x :: l, y :: l', h => by
    obtain ⟨h1, h2⟩ := h
    obtain ⟨g1, g2⟩ := leL_get h2
    refine ⟨by simp [g1], fun i z hz => ?_⟩
    cases i with
    | zero => simp at hz; subst hz; exact ⟨x, rfl, h1⟩
    | succ i => obtain ⟨q, q1, q2⟩ := g2 i z (by simpa using hz); exact ⟨q, by simpa using q1, q2⟩
theorem leA_V {x y : AV} {v : Value} (h : leA x y) (hV : V w fz β dm x v) : V w fz β dm y v := by
  unfold leA at h
  split at h
  · rename_i cs ds
    obtain ⟨vs, rfl, hl, hP⟩ := hV.agg_inv
    obtain ⟨g1, g2⟩ := leL_get h
    refine .agg ds vs (by omega) (fun i y v h1 h2 => ?_)
    obtain ⟨x, hx, hxy⟩ := g2 i y h1
    exact leS_V hxy (hP i x v hx h2)
  · exact leS_V h hV
theorem leAL_get : ∀ {l l' : List AV}, leAL l l' → l.length = l'.length ∧ ∀ (i : Nat) (y : AV), l'[i]? = some y → ∃ x, l[i]? = some x ∧ leA x y
  | [], [], _ => ⟨rfl, fun i y h => by simp at h⟩
  | [], _ :: _, h => by simp [leAL] at h
  | _ :: _, [], h => by simp [leAL] at h
  | x :: l, y :: l', h => by
    obtain ⟨h1, h2⟩ := h
    obtain ⟨g1, g2⟩ := leAL_get h2
    refine ⟨by simp [g1], fun i z hz => ?_⟩
    cases i with
    | zero => simp at hz; subst hz; exact ⟨x, rfl, h1⟩
    | succ i => obtain ⟨q, q1, q2⟩ := g2 i z (by simpa using hz); exact ⟨q, by simpa using q1, q2⟩
theorem leR_V {x y : AV} {v : Value} (h : leR x y) (hV : V w fz β dm x v) : V w fz β dm y v := by
  unfold leR at h
  split at h
  · rename_i cs ds
    obtain ⟨vs, rfl, hl, hP⟩ := hV.tup_inv
    obtain ⟨g1, g2⟩ := leAL_get h
    refine .tup ds vs (by omega) (fun i y v h1 h2 => ?_)
    obtain ⟨x, hx, hxy⟩ := g2 i y h1
    exact leA_V hxy (hP i x v hx h2)
  · exact leA_V h hV
theorem leAL_P {l l' : List AV} {vs : List Value} (h : leAL l l') (hP : Pw w fz β dm l vs) : Pw w fz β dm l' vs := by
  obtain ⟨g1, g2⟩ := leAL_get h
  refine ⟨by rw [hP.1, g1], fun i y v h1 h2 => ?_⟩
  obtain ⟨x, hx, hxy⟩ := g2 i y h1
  exact leA_V hxy (hP.2 i x v hx h2)
end
theorem Holds.args {P : Program} {G : Nat → AV} {f : Nat} {ins : List Row} {args args' : List AV} {res : AV} {outs : List Row} (h : Holds P G f ins args' res outs) (hl : leAL args args') : Holds P G f ins args res outs :=
  ⟨h.1, fun w fz β vs h1 h2 h3 h4 h5 h6 => h.2 w fz β vs h1 h2 h3 h4 h5 (leAL_P hl h6)⟩
theorem HoldsX.args {P : Program} {G : Nat → AV} {f : Nat} {ins : List Row} {args args' gh : List AV} {x : Rs} {res : AV} {outs : List Row} {xq : Rs → Prop} (h : HoldsX P G f ins args' gh x res outs xq) (hl : leAL args args') : HoldsX P G f ins args gh x res outs xq :=
  ⟨h.1, fun w fz β vs h1 h2 h3 h4 h5 h6 => h.2 w fz β vs h1 h2 h3 h4 h5 (leAL_P hl h6)⟩
theorem HoldsX.to {P : Program} {G : Nat → AV} {f : Nat} {ins : List Row} {args gh : List AV} {x : Rs} {res : AV} {outs : List Row} {xq xq' : Rs → Prop} (h : HoldsX P G f ins args gh x res outs xq) (hq : ∀ y, xq y → xq' y) : HoldsX P G f ins args gh x res outs xq' :=
  ⟨h.1, fun w fz β vs h1 h2 h3 h4 h5 h6 h7 h8 => (h.2 w fz β vs h1 h2 h3 h4 h5 h6 h7 h8).mono (by
    rintro e w' ⟨v, β', fz', h1, h2, h3, h4, h5, h6, h7, h8, h9, h10, y, h11, h12⟩
    exact ⟨v, β', fz', h1, h2, h3, h4, h5, h6, h7, h8, h9, h10, y, hq y h11, h12⟩)⟩
theorem AW.res {E : Fx} {todo : List Item} {s : St} {res res' : AV} {outs : List Row} {xq : Rs → Prop} (h : AW E todo s res outs xq) (hl : leR res res') : AW E todo s res' outs xq := fun fz β a w hR b cs hb hk => by
  obtain ⟨v, w', fr, h1, h2, h3, β', fz', g1, g2, g3, g4, g5, g6, g7⟩ := h _ _ _ _ hR b cs hb hk
  exact ⟨v, w', fr, h1, h2, h3, β', fz', g1, g2, g3, g4, g5, leR_V hl g6, g7⟩
theorem Le.nilRow {X : Cx} {s : St} {i : Nat} (hi : s.env i = .nil) (t : Nat) (ht : 16 ≤ t) (hn : s.H t = none) (r : Row) (hr : r.xs = []) : Le X s { s with env := upd s.env i (.own t 0 0), H := upd s.H t (some r), fr := upd s.fr t false } := fun fz β a w hR => by
  have h6 := hR.newRow (t := t) hn ht (r := r) (bo := none) (fun o ho => by cases ho) (by simp [RowOk, upd_apply, hr])
  refine ⟨fz, upd β t none, h6.bel, h6.sz, h6.df, fun j hj => ?_, h6.rw, h6.ij, h6.lo, h6.fl, h6.fs, h6.f0, h6.gl, h6.bi, fun j hj => ?_, h6.xo⟩
  rotate_left
  · simp only [upd_apply]
    by_cases c : j = i
    · rw [if_pos c]
      exact ⟨.slice none 0 0, .own0 t 0 (by simp [St.dm, upd_apply, hr]) (by simp [upd_apply])⟩
    · rw [if_neg c]; exact h6.vt j hj
  simp only [upd_apply]
  by_cases c : j = i
  · rw [if_pos c]
    have := hR.tm j hj
    rw [c, hi] at this
    rw [c, this.nil_inv]
    exact .own0 t 0 (by simp [St.dm, upd_apply, hr]) (by simp [upd_apply])
  · rw [if_neg c]; exact h6.tm j hj
theorem Le.nilSl {X : Cx} {s : St} {i : Nat} (hi : s.env i = .nil) (q : Nat) (z : AV) : Le X s { s with env := upd s.env i (.sl q z []) } := fun fz β a w hR => by
  refine ⟨fz, β, hR.bel, hR.sz, hR.df, fun j hj => ?_, hR.rw, hR.ij, hR.lo, hR.fl, hR.fs, hR.f0, hR.gl, hR.bi, fun j hj => ?_, hR.xo⟩
  rotate_left
  · simp only [upd_apply]
    by_cases c : j = i
    · rw [if_pos c]; exact ⟨.slice none 0 0, .f _ _ (.sl0 q z)⟩
    · rw [if_neg c]; exact hR.vt j hj
  simp only [upd_apply]
  by_cases c : j = i
  · rw [if_pos c]
    have := hR.tm j hj
    rw [c, hi] at this
    rw [c, this.nil_inv]
    exact .f _ _ (.sl0 q z)
  · rw [if_neg c]; exact hR.tm j hj
theorem RowOk.take {w : World} {fz : Nat → Prop} {β : Nat → Option Own} {t : Nat} {r : Row} (h : RowOk w fz β t r) (n : Nat) : RowOk w fz β t { r with xs := r.xs.take n } := by
  unfold RowOk at *
  cases hq : β t with
  | none => rw [hq] at h; simp only [h, List.take_nil]
  | some o =>
    rw [hq] at h
    obtain ⟨h1, h2, h3, h4, cur, us, h5, h6, h7, h8, h9, h10⟩ := h
    have ht : ∀ {α : Type} {l : List α} {i : Nat} {x : α}, (l.take n)[i]? = some x → l[i]? = some x := fun h => by
      rw [List.getElem?_take] at h
      split at h
      · exact h
      · cases h
    exact ⟨h1, h2, by simp only [List.length_take]; omega, h4, cur, us.take n, h5, h6, by simp only [List.length_take, h7], fun i x u a b => h8 i x u (ht a) (ht b), fun u hu => h9 u (List.mem_of_mem_take hu), fun i u j c a b => h10 i u j c (ht a) b⟩
structure Out where
  res : AV
  outs : List Row
  xq : Rs → Prop
structure Pm where
  P : Program
  G : Nat → AV
  N : Nat
  rs : List ResultVar
  ins : List Row
theorem aggFree_nil (l : List AV) : aggFree [] l = true := by
  unfold aggFree
  rw [List.all_eq_true]
  intro x _
  split <;> simp
structure EOk (M : Pm) (E : Fx) : Prop where
  p : E.X.P = M.P
  g : E.X.G = M.G
  n : E.X.N = M.N
  r : E.fn.results.toList = M.rs
  i : E.ins = M.ins
section
variable {R T : Type}
def Sim (M : Pm) (J : R → Out) (G : Option R) (todo : List Item) (s : St) : Prop := ∀ E : Fx, EOk M E → ∀ r, G = some r → AW E todo s (J r).1 (J r).2 (J r).3
def SimC (C : Fx → R → St → Prop) (M : Pm) (ops : Array Oper) (G : Option R) (idx : List Nat) (s : St) : Prop := ∀ E : Fx, EOk M E → ∀ r, G = some r → ∃ s', Run E.X ops idx s s' ∧ C E r s'
abbrev SimO (M : Pm) (J : R → Out) (ops : Array Oper) (G : Option R) (idx : List Nat) (k : List Item) (s : St) : Prop := SimC (fun E r s' => AW E k s' (J r).1 (J r).2 (J r).3) M ops G idx s
def LeM (M : Pm) (s s' : St) : Prop := ∀ E : Fx, EOk M E → Le E.X s s'
variable {M : Pm} {J : R → Out} {C : Fx → R → St → Prop} {G G1 G2 : Option R} {k : List Item} {s s' : St} {ops : Array Oper} {idx : List Nat}
theorem sim_none {todo : List Item} : Sim M J (none : Option R) todo s := fun E hE r h => by cases h
theorem sim_ite {c : Prop} [Decidable c] {todo : List Item} (h1 : c → Sim M J G1 todo s) (h2 : ¬ c → Sim M J G2 todo s) : Sim M J (if c then G1 else G2) todo s := by
  by_cases h : c
  · rw [if_pos h]; exact h1 h
  · rw [if_neg h]; exact h2 h
theorem sim_let {v : T} {F : T → Option R} {todo : List Item} (h : Sim M J (F v) todo s) : Sim M J ((some v).bind F) todo s := h
theorem simC_none : SimC C M ops (none : Option R) idx s := fun E hE r h => by cases h
theorem simC_ite {c : Prop} [Decidable c] (h1 : c → SimC C M ops G1 idx s) (h2 : ¬ c → SimC C M ops G2 idx s) : SimC C M ops (if c then G1 else G2) idx s := by
  by_cases h : c
  · rw [if_pos h]; exact h1 h
  · rw [if_neg h]; exact h2 h
theorem sim_skip (h : Sim M J G k s) : Sim M J G (.code .skip :: k) s := fun E hE r hr => aw_skip (h E hE r hr)
theorem sim_seq {x y : Code} (h : Sim M J G (.code x :: .code y :: k) s) : Sim M J G (.code (.seq x y) :: k) s := fun E hE r hr => aw_seq (h E hE r hr)
theorem sim_block {id : Nat} {c : Code} (h : Sim M J G (.code c :: .inBlock id :: k) s) : Sim M J G (.code (.block id c) :: k) s := fun E hE r hr => aw_block (h E hE r hr)
theorem sim_inBlock {id : Nat} (h : Sim M J G k s) : Sim M J G (.inBlock id :: k) s := fun E hE r hr => aw_inBlock (h E hE r hr)
theorem sim_exit {id : Nat} {k' : List Item} (hk : exitTo id k = some k') (h : Sim M J G k' s) : Sim M J G (.code (.exit id) :: k) s := fun E hE r hr => aw_exit hk (h E hE r hr)
theorem sim_condT {c : Operand} {x y : Code} (hc : ev M.N M.G s.env c = .bool true) (h : Sim M J G (.code x :: k) s) : Sim M J G (.code (.cond c x y) :: k) s := fun E hE r hr =>
  aw_cond (t := true) (by rw [hE.n, hE.g]; exact hc) (h E hE r hr)
theorem sim_condF {c : Operand} {x y : Code} (hc : ev M.N M.G s.env c = .bool false) (h : Sim M J G (.code y :: k) s) : Sim M J G (.code (.cond c x y) :: k) s := fun E hE r hr =>
  aw_cond (t := false) (by rw [hE.n, hE.g]; exact hc) (h E hE r hr)
theorem simO_nil (h : Sim M J G k s) : SimO M J ops G [] k s := fun E hE r hr => ⟨s, .nil s, h E hE r hr⟩
theorem simC_skip {i : Nat} {o : Oper} (ho : ops[i]? = some o) (hg : gd M.N ops s.env o = some false) (h : SimC C M ops G idx { s with env := putE s.env o.dst .undef }) : SimC C M ops G (i :: idx) s := fun E hE r hr => by
  obtain ⟨s', h1, h2⟩ := h E hE r hr
  exact ⟨s', .cons i idx s _ s' o ho (.step (.skip (by rw [hE.n]; exact hg))) h1, h2⟩
theorem simC_act {i d : Nat} {o : Oper} {e : Eff} (ho : ops[i]? = some o) (hg : gd M.N ops s.env o = some true) (hd : o.dst = some d) (ha : act M.P M.N M.G s d o.op = some e) (h : SimC C M ops G idx (s.app (some d) e)) : SimC C M ops G (i :: idx) s := fun E hE r hr => by
  obtain ⟨s', h1, h2⟩ := h E hE r hr
  exact ⟨s', .cons i idx s _ s' o ho (.step (.act d e (by rw [hE.n]; exact hg) (.inl hd) (by rw [hE.p, hE.n, hE.g]; exact ha))) (by rw [hd]; exact h1), h2⟩
theorem simC_act0 {i : Nat} {o : Oper} {e : Eff} (ho : ops[i]? = some o) (hg : gd M.N ops s.env o = some true) (hd : o.dst = none) (ha : act M.P M.N M.G s 0 o.op = some e) (hn : e.new = []) (h : SimC C M ops G idx (s.app none e)) : SimC C M ops G (i :: idx) s := fun E hE r hr => by
  obtain ⟨s', h1, h2⟩ := h E hE r hr
  exact ⟨s', .cons i idx s _ s' o ho (.step (.act 0 e (by rw [hE.n]; exact hg) (.inr ⟨hd, hn⟩) (by rw [hE.p, hE.n, hE.g]; exact ha))) (by rw [hd]; exact h1), h2⟩
theorem simC_app {i d : Nat} {o : Oper} {x y : Operand} {t : TypeId} (ho : ops[i]? = some o) (hg : gd M.N ops s.env o = some true) (hd : o.dst = some d) (hop : o.op = .call { callee := .builtin .append, args := #[x, y], argTypes := #[t, t] })
    (ha : apA M.P s d t (ev M.N M.G s.env x) (ev M.N M.G s.env y) = some s') (h : SimC C M ops G idx s') : SimC C M ops G (i :: idx) s := fun E hE r hr => by
  obtain ⟨s2, h1, h2⟩ := h E hE r hr
  exact ⟨s2, .cons i idx s _ s2 o ho (.app d x y t (by rw [hE.n]; exact hg) hd hop (by rw [hE.p, hE.n, hE.g]; exact ha)) h1, h2⟩
theorem simC_call {i d : Nat} {o : Oper} {f : Nat} {args : Array Operand} {tys : Array TypeId} {cargs cargs' : List AV} {res : T → AV} {outs : T → List Row} {A : Option T} {F : T → Option R} (cl : Bool)
    (hh : ∀ t, A = some t → Holds M.P M.G f [] cargs' (res t) (outs t))
    (ho : ops[i]? = some o) (hop : o.op = .call { callee := .value (.func f), args, argTypes := tys }) (hd : o.dst = some d) (hg : gd M.N ops s.env o = some true)
    (hc : convL [] s.H (args.toList.map (ev M.N M.G s.env)) = some cargs) (hle : leAL cargs cargs')
    (hcl : cl = true → ∀ t, closedR (res t) = true ∧ ∀ r ∈ outs t, ClosedRow r)
    (htag : cl = true ∨ tagOk (lentT [] (args.toList.map (ev M.N M.G s.env))) = true)
    (hn : ∀ t, (outs t).length ≤ 16 ∧ ∀ j, j < (outs t).length → s.H (tg d 0 + j) = none)
    (h : ∀ t, SimC C M ops (F t) idx (s.app (some d) { val := renV [] d (res t), new := outs t, fz := if cl = true then [] else lentT [] (args.toList.map (ev M.N M.G s.env)) })) : SimC C M ops (A.bind F) (i :: idx) s := fun E hE r hr => by
  obtain ⟨t, ht, hr⟩ := Option.bind_eq_some_iff.1 hr
  obtain ⟨s', h1, h2⟩ := h t E hE r hr
  refine ⟨s', .cons i idx s _ s' o ho (.step (.call _ (by rw [hE.n]; exact hg) (.mk (xs := none) f args tys [] (outs t) cargs (res t) cl [] hop rfl List.nodup_nil (fun j r h => by simp at h) (by rw [hE.n, hE.g]; exact hc) (aggFree_nil _) (by rw [hE.p, hE.g]; exact ((hh t ht).args hle).toG) rfl (fun h => hcl h t) (by rw [hE.n, hE.g]; exact htag)
    (fun d' hd' j hj => by rw [hd] at hd'; obtain rfl := Option.some.inj hd'; exact (hn t).2 j (by simpa using hj)) (by simpa using (hn t).1) rfl))) ?_, h2⟩
  rw [hd, hE.n, hE.g]
  exact h1
theorem simC_callW {i d : Nat} {o : Oper} {f : Nat} {args : Array Operand} {tys : Array TypeId} {cargs cargs' : List AV} {res : T → AV} {outs : T → List Row} {A : Option T} {F : T → Option R} (τ : List Nat) (ins : List Row) (cl : Bool)
    (hh : ∀ t, A = some t → Holds M.P M.G f ins cargs' (res t) (outs t))
    (ho : ops[i]? = some o) (hop : o.op = .call { callee := .value (.func f), args, argTypes := tys }) (hd : o.dst = some d) (hw : isW M.P f = true) (hτa : ∀ t ∈ τ, ∃ x ∈ args.toList, Has t (ev M.N M.G s.env x)) (hg : gd M.N ops s.env o = some true) (hτ : chkR s τ ins) (hτn : τ.Nodup)
    (hc : convL τ s.H (args.toList.map (ev M.N M.G s.env)) = some cargs) (hle : leAL cargs cargs') (hag : aggFree τ (args.toList.map (ev M.N M.G s.env)) = true)
    (hcl : cl = true → ∀ t, closedR (res t) = true ∧ ∀ r ∈ outs t, ClosedRow r)
    (htag : cl = true ∨ tagOk (lentT τ (args.toList.map (ev M.N M.G s.env))) = true)
    (hn : ∀ t, (outs t).length - ins.length ≤ 16 ∧ ∀ j, j < (outs t).length - ins.length → s.H (tg d 0 + j) = none)
    (h : ∀ t, SimC C M ops (F t) idx (s.app (some d) { val := renV τ d (res t), new := (outs t).drop ins.length, wr := τ.zip (outs t), fz := if cl = true then [] else lentT τ (args.toList.map (ev M.N M.G s.env)) })) : SimC C M ops (A.bind F) (i :: idx) s := fun E hE r hr => by
  obtain ⟨t, ht, hr⟩ := Option.bind_eq_some_iff.1 hr
  obtain ⟨s', h1, h2⟩ := h t E hE r hr
  obtain ⟨g1, g2⟩ := chkR_get hτ
  refine ⟨s', .cons i idx s _ s' o ho (.callW _ τ f args tys (by rw [hE.n]; exact hg) (.mk (xs := none) f args tys ins (outs t) cargs (res t) cl [] hop g1 hτn g2 (by rw [hE.n, hE.g]; exact hc) (by rw [hE.n, hE.g]; exact hag) (by rw [hE.p, hE.g]; exact ((hh t ht).args hle).toG) rfl (fun h => hcl h t) (by rw [hE.n, hE.g]; exact htag)
    (fun d' hd' j hj => by rw [hd] at hd'; obtain rfl := Option.some.inj hd'; exact (hn t).2 j hj) (hn t).1 rfl) hop (by rw [hE.p]; exact hw) rfl (by rw [hE.n, hE.g]; exact hτa)) ?_, h2⟩
  rw [hd, hE.n, hE.g]
  exact h1
theorem sim_ret (τ : List Nat) {q p : AV} {v : R} (hr : ∀ E : Fx, EOk M E → resV E.X s M.rs = some q) (hc : chkR s τ (J v).2) (hcv : convR τ s.H q = some p) (hle : leR p (J v).1)
    (htag : tagOk (lentT τ (comps q)) = true) (hag : aggFree τ (comps q) = true) (hok : okRet M.ins.length τ = true) (hlen : ((J v).2.take M.ins.length).map (·.xs.length) = M.ins.map (·.xs.length)) (hn : M.ins.length ≤ (J v).2.length) (hxq : (J v).3 s.x) :
    Sim M J (some v) (.code .ret :: k) s := fun E hE r h => by
  obtain rfl := Option.some.inj h
  exact (aw_ret τ (by rw [hE.r]; exact hr E hE) hc hcv htag hag (by rw [hE.i]; exact hok) (by rw [hE.i]; exact hlen) (by rw [hE.i]; exact hn) hxq).res hle
theorem sim_end (τ : List Nat) {q p : AV} {v : R} (hr : ∀ E : Fx, EOk M E → resV E.X s M.rs = some q) (hc : chkR s τ (J v).2) (hcv : convR τ s.H q = some p) (hle : leR p (J v).1)
    (htag : tagOk (lentT τ (comps q)) = true) (hag : aggFree τ (comps q) = true) (hok : okRet M.ins.length τ = true) (hlen : ((J v).2.take M.ins.length).map (·.xs.length) = M.ins.map (·.xs.length)) (hn : M.ins.length ≤ (J v).2.length) (hxq : (J v).3 s.x) :
    Sim M J (some v) [] s := fun E hE r h => by
  obtain rfl := Option.some.inj h
  exact (aw_end τ (by rw [hE.r]; exact hr E hE) hc hcv htag hag (by rw [hE.i]; exact hok) (by rw [hE.i]; exact hlen) (by rw [hE.i]; exact hn) hxq).res hle
theorem Sim.le (h : Sim M J G k s') (hl : LeM M s s') : Sim M J G k s := fun E hE r hr => (h E hE r hr).le (hl E hE)
theorem LeM.canon {L : List (Nat × AV)} (τ ν : List Nat) {rows : List Row} (hok : okT τ ν = true) (hc : chkR s τ rows) (hL : chkL M.N s τ ν L)
    (htag : tagOk (lentT τ (L.map fun p => s.env p.1)) = true) (hag : aggFree τ (L.map fun p => s.env p.1) = true) : LeM M s (mkS L ν rows s.x) := fun E hE => Le.canon τ ν hok hc hL htag hag
theorem LeM.nilRow {i : Nat} (t : Nat) (r : Row) (hi : s.env i = .nil) (ht : 16 ≤ t) (hn : s.H t = none) (hr : r.xs = []) (h : LeM M { s with env := upd s.env i (.own t 0 0), H := upd s.H t (some r), fr := upd s.fr t false } s') : LeM M s s' :=
  fun E hE => (Le.nilRow hi t ht hn r hr).trans (h E hE)
theorem LeM.nilSl {i : Nat} (q : Nat) (z : AV) (hi : s.env i = .nil) (h : LeM M { s with env := upd s.env i (.sl q z []) } s') : LeM M s s' :=
  fun E hE => (Le.nilSl hi q z).trans (h E hE)
theorem LeM.refl : LeM M s s := fun E _ => Le.refl _ _
theorem sim_nilRow {i : Nat} (t : Nat) (r : Row) (hi : s.env i = .nil) (ht : 16 ≤ t) (hn : s.H t = none) (hr : r.xs = []) (h : Sim M J G k { s with env := upd s.env i (.own t 0 0), H := upd s.H t (some r), fr := upd s.fr t false }) : Sim M J G k s :=
  h.le (fun E _ => Le.nilRow hi t ht hn r hr)
theorem sim_loop {c : Code} (L : Nat → T → Option R) (inv : T → St) (K : Nat) (h0 : ∀ x, L 0 x = none)
    (hs : ∀ n, n < K → (∀ m x s', m ≤ n → LeM M s' (inv x) → Sim M J (L m x) (.inLoop c :: k) s') → ∀ x, Sim M J (L (n + 1) x) (.code c :: .inLoop c :: k) (inv x)) (x : T) (hl : LeM M s (inv x)) : Sim M J (L K x) (.code (.loop c) :: k) s := by
  have body : ∀ n, n ≤ K → ∀ x, Sim M J (L n x) (.code c :: .inLoop c :: k) (inv x) := by
    intro n
    induction n using Nat.strongRecOn with
    | _ n ih =>
      intro hn x
      cases n with
      | zero => rw [h0]; exact sim_none
      | succ n => exact hs n hn (fun m x s' hm hl' => (fun E hE r hr => aw_inLoop ((ih m (by omega) (by omega) x).le hl' E hE r hr))) x
  exact fun E hE r hr => aw_loop ((body K (Nat.le_refl _) x).le hl E hE r hr)
theorem envL_keep (env : Nat → AV) (i : Nat) : ∀ qs : List Nat, envL (qs.map fun q => (q, env q)) i = if i ∈ qs then env i else .dead
  | [] => by simp [envL]
  | q :: qs => by
    simp only [List.map_cons, envL, upd_apply, envL_keep env i qs, List.mem_cons]
    by_cases h : i = q
    · simp [h]
    · simp [h]
theorem sim_keep (qs : List Nat) (h : Sim M J G k { s with env := envL (qs.map fun q => (q, s.env q)) }) : Sim M J G k s := h.le fun E _ fz β a w hR => by
  have key : ∀ i v, V w fz β s.dm (s.env i) v → V w fz β s.dm (envL (qs.map fun q => (q, s.env q)) i) v := fun i v hv => by
    rw [envL_keep]
    by_cases c : i ∈ qs
    · rw [if_pos c]; exact hv
    · rw [if_neg c]; exact .dead _
  exact ⟨fz, β, hR.bel, hR.sz, hR.df, fun i hi => key i _ (hR.tm i hi), hR.rw, hR.ij, hR.lo, hR.fl, hR.fs, hR.f0, hR.gl, hR.bi, fun i hi => (hR.vt i hi).imp fun v hv => key i v hv, hR.xo⟩
theorem sim_un {c : Code} (h : Sim M J G (.code c :: .inLoop c :: k) s) : Sim M J G (.code (.loop c) :: k) s := fun E hE r hr => aw_loop (h E hE r hr)
theorem sim_un2 {c : Code} (h : Sim M J G (.code c :: .inLoop c :: k) s) : Sim M J G (.inLoop c :: k) s := fun E hE r hr => aw_inLoop (h E hE r hr)
end
theorem envL_app {L2 : List (Nat × AV)} (i : Nat) (h : ∀ p ∈ L2, p.1 ≠ i) : ∀ {L1 : List (Nat × AV)}, envL (L1 ++ L2) i = envL L1 i
  | [] => by
    rcases envL_mem (L := L2) i with h' | h'
    · rw [List.nil_append, h']; rfl
    · exact absurd rfl (h _ h')
  | p :: L1 => by
    simp only [List.cons_append, envL, upd_apply]
    rw [envL_app i h]
theorem holdsX_of_sim {P : Program} {G : Nat → AV} {f : Nat} {fn : Func} {c : Code} {ins : List Row} {args : List AV} {R : Type} (J : R → Out) {Gx : Option R} {r : R} (hr : Gx = some r) (hf : P.funcs[f]? = some fn) (hb : fn.body = some c) (hcall : callable P f = true) (N : Nat) (hN : fn.ntmps = N) (hn : args.length ≤ N) (hi : ins.length ≤ 16) (gh : List AV) (x : Rs)
    (L : List (Nat × AV)) (hL : L = ((args.zipIdx 0).map fun p => (p.2, p.1)) ++ ((gh.zipIdx N).map fun p => (p.2, p.1))) (ν : List Nat) (hν : ν = List.range ins.length) (rs : List ResultVar) (hrs : fn.results.toList = rs)
    (h : Sim ⟨P, G, N, rs, ins⟩ J Gx [.code c] (mkS L ν ins x)) : HoldsX P G f ins args gh x (J r).1 (J r).2 (J r).3 := by
  refine ⟨hcall, fun w fz β vs hG hfz hrows hinj hnz hP hgs hxx => ?_⟩
  subst hr
  intro cs
  let β0 : Nat → Option Own := fun t => if t < ins.length then β t else none
  let X : Cx := { P := P, G := G, N := N, w0 := w, fz0 := fz, wr := fun b => (∃ t o, t < ins.length ∧ β t = some o ∧ b = o.blk) ∨ x.bl w b, β0 := β0 }
  let E : Fx := { X := X, f := f, fn := fn, ins := ins, hf := hf }
  have hβ0 : ∀ t, t < ins.length → β0 t = β t := fun t ht => if_pos ht
  have hH : ∀ t, rowsL ν ins t = ins[t]? := fun t => by
    subst hν
    rcases Nat.lt_or_ge t ins.length with ht | ht
    · have := rowsL_at (ν := List.range ins.length) (rows := ins) (by simp) List.nodup_range t (by simpa using ht)
      rw [show (List.range ins.length).getD t 0 = t by simp [ht]] at this
      exact this
    · rw [List.getElem?_eq_none ht]
      cases hq : rowsL (List.range ins.length) ins t with
      | none => rfl
      | some q =>
        obtain ⟨j, h1, h2, h3⟩ := rowsL_get (ν := List.range ins.length) (rows := ins) (by simp) List.nodup_range t q hq
        have : j < ins.length := by simpa using h1
        rw [show (List.range ins.length).getD j 0 = j by simp [this]] at h2
        omega
  have hne : ∀ t, rowsL ν ins t ≠ none → t < ins.length := fun t ht => by
    rcases Nat.lt_or_ge t ins.length with h | h
    · exact h
    · rw [hH, List.getElem?_eq_none h] at ht; exact absurd rfl ht
  have hdm : ∀ t, (mkS L ν ins x).dm t = lens ins t := fun t => by simp only [St.dm, mkS, hH, lens]
  have hR : Rel X (mkS L ν ins x) fz β0 { tmps := vs.toArray ++ Array.replicate (fn.ntmps - vs.toArray.size) undef, defers := [] } w := by
    refine ⟨Bel.refl _ _, ?_, rfl, fun i hi' => ?_, fun t r ht => ?_, fun t t' o o' ht ht' hb1 hb2 he => ?_, fun t o ht hb' => ?_, fun t o ht hb' => ?_, fun b hb' => ⟨hfz b hb', fun _ => hb'⟩, fun b hb' => hb', hG, fun t ht => rfl, fun i hi2 => ?_, hxx.1, fun b hb' => ⟨(hxx.2 b hb').1, (hxx.2 b hb').2.1, .inr (.inr hb'), fun t o ht ho => ?_⟩⟩
    rotate_right
    · have h1 := hne t ht
      rw [hβ0 t h1] at ho
      exact (hxx.2 b hb').2.2 t o h1 ho
    rotate_right
    · have hi3 : N ≤ i := hi2
      rcases envL_mem (L := L) i with h | h
      · exact ⟨undef, by show V w fz β0 _ (envL L i) _; rw [h]; exact .dead _⟩
      · rw [hL] at h
        rcases List.mem_append.1 h with h | h
        · exfalso
          obtain ⟨p, hp, he⟩ := List.mem_map.1 h
          have h1 := List.mem_zipIdx hp
          have h2 : p.2 = i := (Prod.mk.inj he).1
          omega
        · obtain ⟨p, hp, he⟩ := List.mem_map.1 h
          obtain ⟨v, hv⟩ := hgs p.1 (List.fst_mem_of_mem_zipIdx hp)
          refine ⟨v, ?_⟩
          show V w fz β0 _ (envL L i) v
          have e := (Prod.mk.inj he).2
          rw [← hL] at e
          rw [← e]
          refine hv.mono (fun _ _ => rfl) (fun _ z => z) (fun t n ht => by rw [hdm]; exact ht) (fun t n ht => hβ0 t ?_)
          simp only [lens] at ht
          rcases Nat.lt_or_ge t ins.length with h | h
          · exact h
          · rw [List.getElem?_eq_none h] at ht; cases ht
    · have := hP.1
      simp [X, hN]; omega
    · show V w fz β0 _ (envL L i) _
      have hlen := hP.1
      have hLget : ∀ i, i < N → envL L i = (args[i]?).getD .dead := by
        have key : ∀ (l : List AV) (m i : Nat), envL ((l.zipIdx m).map fun p => (p.2, p.1)) i = if m ≤ i then (l[i - m]?).getD .dead else .dead := by
          intro l
          induction l with
          | nil => intro m i; simp [envL]
          | cons x l ih =>
            intro m i
            simp only [List.zipIdx_cons, List.map_cons, envL, upd_apply, ih]
            by_cases c1 : i = m
            · subst c1; simp
            · by_cases c2 : m ≤ i
              · rw [if_neg c1, if_pos (by omega), if_pos c2]
                obtain ⟨q, hq⟩ : ∃ q, i - m = q + 1 := ⟨i - m - 1, by omega⟩
                rw [hq, List.getElem?_cons_succ, show i - (m + 1) = q by omega]
              · rw [if_neg c1, if_neg (by omega), if_neg c2]
        intro i hiN
        rw [hL, envL_app i (fun p hp => by
          obtain ⟨q, hq, rfl⟩ := List.mem_map.1 hp
          have := List.mem_zipIdx hq
          simp only
          omega), key]
        simp
      rw [hLget i hi']
      rcases Nat.lt_or_ge i args.length with hia | hia
      · have hiv : i < vs.length := by omega
        rw [List.getElem?_eq_getElem hia, Option.getD_some]
        have := hP.2 i args[i] vs[i] (by simp [hia]) (by simp [hiv])
        have hget : (vs.toArray ++ Array.replicate (fn.ntmps - vs.toArray.size) undef).getD i undef = vs[i] := by
          simp [Array.getElem?_append, hiv]
        rw [hget]
        refine this.mono (fun _ _ => rfl) (fun _ z => z) (fun t n ht => by rw [hdm]; exact ht) (fun t n ht => hβ0 t ?_)
        simp only [lens] at ht
        rcases Nat.lt_or_ge t ins.length with h | h
        · exact h
        · rw [List.getElem?_eq_none h] at ht; cases ht
      · rw [List.getElem?_eq_none hia]; exact .dead _
    · have ht' : ins[t]? = some r := by rw [← hH t]; exact ht
      have htl := (List.getElem?_eq_some_iff.1 ht').1
      exact (hrows t r ht').mono (fun _ _ => rfl) (fun _ z => z) (hβ0 t htl) (fun _ _ => rfl)
    · have h1 := hne t ht
      have h2 := hne t' ht'
      rw [hβ0 t h1] at hb1
      rw [hβ0 t' h2] at hb2
      exact hinj t t' o o' h1 h2 hb1 hb2 he
    · have h1 := hne t ht
      rw [hβ0 t h1] at hb'
      exact ⟨fun h16 => absurd h1 (by omega), .inr (.inl ⟨t, o, h1, hb', rfl⟩)⟩
    · have h1 := hne t ht
      rw [hβ0 t h1] at hb'
      exact ⟨fun _ => hnz t o h1 hb', fun h => by cases h⟩
  let b : Frame := { (default : Frame) with fn := f, kind := .normal }
  have henter : Frame.enter P f vs.toArray .normal = b.at { tmps := vs.toArray ++ Array.replicate (fn.ntmps - vs.toArray.size) undef, defers := [] } [.code c] := by
    simp [Frame.enter, Frame.at, hf, hb, b]
  have hA : AW E [.code c] (mkS L ν ins x) (J r).1 (J r).2 (J r).3 := h E ⟨rfl, rfl, rfl, hrs, rfl⟩ r rfl
  obtain ⟨v, w', fr, h1, h2, h3, β', fz', g1, g2, g3, g4, g5, g6, g7, g8, g9, xp, k1, k2, k3⟩ := hA fz β0 _ w hR b cs rfl rfl
  refine ⟨.returned v, w', fr, ⟨v, β', fz', rfl, g1, g2, g3, g4, fun t ht => ⟨(g5 t ht).1.trans (hβ0 t ht), (g5 t ht).2⟩, g6, g7, g8, g9, xp, k1, k2, fun b hb => ?_⟩, ?_, h2, h3⟩
  · obtain ⟨l1, l2, l3, l4⟩ := k3 b hb
    refine ⟨l1, l2, ?_, l4⟩
    rcases l3 with l3 | ⟨t, o, h5, h6, h7⟩ | l3
    · exact .inr l3
    · exact absurd h7.symm (l4 t o (Nat.lt_of_lt_of_le h5 g4) ((g5 t h5).1.trans ((hβ0 t h5).trans h6)))
    · exact .inl l3
  · rw [henter]
    exact h1
theorem holds_of_sim {P : Program} {G : Nat → AV} {f : Nat} {fn : Func} {c : Code} {ins : List Row} {args : List AV} {R : Type} (J : R → Out) {Gx : Option R} {r : R} (hr : Gx = some r) (hf : P.funcs[f]? = some fn) (hb : fn.body = some c) (hcall : callable P f = true) (N : Nat) (hN : fn.ntmps = N) (hn : args.length ≤ N) (hi : ins.length ≤ 16)
    (L : List (Nat × AV)) (hL : L = (args.zipIdx 0).map fun p => (p.2, p.1)) (ν : List Nat) (hν : ν = List.range ins.length) (rs : List ResultVar) (hrs : fn.results.toList = rs)
    (h : Sim ⟨P, G, N, rs, ins⟩ J Gx [.code c] (mkS L ν ins)) : Holds P G f ins args (J r).1 (J r).2 :=
  HoldsG.plain (by
    have := holdsX_of_sim J hr hf hb hcall N hN hn hi [] Rs.no L (by simpa using hL) ν hν rs hrs h
    refine ⟨this.1, fun w fz β vs h1 h2 h3 h4 h5 h6 h7 h8 => (this.2 w fz β vs h1 h2 h3 h4 h5 h6 h7 h8).mono ?_⟩
    rintro e w' ⟨v, β', fz', h1, h2, h3, h4, h5, h6, h7, h8, h9, h10, x', _, h11⟩
    exact ⟨v, β', fz', h1, h2, h3, h4, h5, h6, h7, h8, h9, h10, x', trivial, h11⟩)
end Go.Proofs.YtpchdjdochkjpaaGreatDoor.Am
set_option linter.unusedVariables false
set_option linter.unusedSimpArgs false
namespace Go.Proofs.YtpchdjdochkjpaaGreatDoor.Am
open Go Go.RowKit
theorem V.has {w : World} {fz : Nat → Prop} {β : Nat → Option Own} {dm : Nat → Option Nat} {x : AV} {v : Value} (h : V w fz β dm x v) : ∀ t, Has t x → dm t ≠ none := by
  have hF : ∀ {x : AV} {v : Value}, F w fz x v → ∀ t, ¬ Has t x := by
    intro x v h
    induction h with
    | agg cs vs hl hs h ih =>
      intro t ht
      cases ht with
      | agg _ x hx h' =>
        obtain ⟨i, hi, rfl⟩ := List.mem_iff_getElem.1 hx
        exact ih i cs[i] (vs[i]'(by omega)) (by simp [hi]) (by simp [hl, hi]) t h'
    | _ => intro t ht; cases ht
  induction h with
  | dead v => intro t ht; cases ht
  | undef => intro t ht; cases ht
  | f x v h => intro t ht; exact absurd ht (hF h t)
  | own0 t n hd hb => intro t' ht; cases ht; rw [hd]; simp
  | own t off len a c o n hd hb ha hl hc hn => intro t' ht; cases ht; rw [hd]; simp
  | optr t i k o n hd hb hn => intro t' ht; cases ht; rw [hd]; simp
  | lk x v h h1 h2 ih => intro t ht; cases ht with | lk _ _ h' => exact ih t h'
  | agg cs vs hl h ih =>
    intro t ht
    cases ht with
    | agg _ x hx h' =>
      obtain ⟨i, hi, rfl⟩ := List.mem_iff_getElem.1 hx
      exact ih i cs[i] (vs[i]'(by omega)) (by simp [hi]) (by simp [hl, hi]) t h'
  | tup cs vs hl h ih =>
    intro t ht
    cases ht with
    | tup _ x hx h' =>
      obtain ⟨i, hi, rfl⟩ := List.mem_iff_getElem.1 hx
      exact ih i cs[i] (vs[i]'(by omega)) (by simp [hi]) (by simp [hl, hi]) t h'
def Ag (H H' : Nat → Option Row) (x : AV) : Prop := ∀ t, Has t x → H t = H' t
section
variable {H H' : Nat → Option Row}
theorem deepS_congr {x : AV} (h : Ag H H' x) : deepS H x = deepS H' x := by
  cases x <;> first | rfl | (unfold deepS; dsimp only; rw [h _ (.own _ _)])
theorem deepL_congr : ∀ {l : List AV}, (∀ x ∈ l, Ag H H' x) → deepL H l = deepL H' l
  | [], _ => rfl
  | x :: l, h => by simp only [deepL]; rw [deepS_congr (h x (by simp)), deepL_congr (fun y hy => h y (by simp [hy]))]
theorem deep_congr {x : AV} (h : Ag H H' x) : deep H x = deep H' x := by
  unfold deep
  split
  · rename_i cs
    rw [deepL_congr (fun y hy t ht => h t (.agg _ y hy ht))]
  · exact deepS_congr h
theorem deepAll_congr : ∀ {l : List AV}, (∀ x ∈ l, Ag H H' x) → deepAll H l = deepAll H' l
  | [], _ => rfl
  | x :: l, h => by simp only [deepAll]; rw [deep_congr (h x (by simp)), deepAll_congr (fun y hy => h y (by simp [hy]))]
theorem cvt_congr {P : Program} {a b : TypeId} {x : AV} (h : Ag H H' x) : cvt P H a b x = cvt P H' a b x := by
  have e := deepS_congr h
  unfold cvt
  cases kn P b <;> cases x <;> first | rfl | (simp only []; rw [e])
theorem cut_congr {P : Program} {t : TypeId} {x : AV} {lo hi : Option AV} (h : Ag H H' x) : cut P H t x lo hi = cut P H' t x lo hi := by
  cases x with
  | own t' off n =>
    unfold cut
    cases optI lo 0 with
    | none => rfl
    | some l => dsimp only; rw [h _ (.own _ _)]
  | _ => unfold cut; cases optI lo 0 <;> rfl
theorem idxA_congr {P : Program} {t : TypeId} {x i : AV} (h : Ag H H' x) : idxA P H t x i = idxA P H' t x i := by
  cases i with
  | int k n =>
    cases x with
    | own t' off m => unfold idxA; dsimp only; rw [h _ (.own _ _)]
    | fptr y => cases y <;> rfl
    | _ => rfl
  | _ => rfl
theorem ld_congr {P : Program} {t : TypeId} {x : AV} (h : Ag H H' x) : ld P H t x = ld P H' t x := by
  unfold ld
  cases kd P t with
  | none => rfl
  | some q => obtain ⟨g, n⟩ := q; cases x <;> first | rfl | (dsimp only; rw [h _ (.optr _ _)])
theorem ldX_congr {P : Program} {t : TypeId} {x : AV} {s s' : St} (h : Ag s.H s'.H x) (hX : s.x.rd = s'.x.rd) : ldX P s t x = ldX P s' t x := by
  unfold ldX
  split
  · rw [hX]
  · exact ld_congr h
theorem st_congr {P : Program} {t : TypeId} {f f' : Nat → Bool} {p x : AV} (h : Ag H H' p) (h2 : Ag H H' x) (h3 : ∀ t, Has t p → f t = f' t) : st P H f t p x = st P H' f' t p x := by
  unfold st
  cases kd P t with
  | none => rfl
  | some q => obtain ⟨g, n⟩ := q; cases p <;> first | rfl | (dsimp only; rw [h _ (.optr _ _), deep_congr h2, h3 _ (.optr _ _)])
theorem conv_congr {τ : List Nat} {x : AV} (h : Ag H H' x) : conv τ H x = conv τ H' x := by
  unfold conv
  split
  · rw [deep_congr h]
  · rfl
  · rfl
  · exact deep_congr h
theorem convL_congr {τ : List Nat} : ∀ {l : List AV}, (∀ x ∈ l, Ag H H' x) → convL τ H l = convL τ H' l
  | [], _ => rfl
  | x :: l, h => by simp only [convL]; rw [conv_congr (h x (by simp)), convL_congr (fun y hy => h y (by simp [hy]))]
end
def kindOp (P : Program) : Op → Nat
  | .store _ _ _ => 2
  | .call c => match c.callee with
    | .builtin .len | .builtin .min | .builtin .max => 0
    | .value (.func f) => bif isW P f then 2 else 1
    | _ => 3
  | .convert _ _ _ | .load _ _ | .slice _ _ _ _ _ | .indexAddr _ _ _ | .box _ _ | .buildSlice _ _ _ => 1
  | .move _ | .assign _ | .nilCheck _ | .pick _ _ _ | .binOp _ _ _ _ _ | .unOp _ _ _ | .extract _ _ | .field _ _ _ | .index _ _ _ | .build _ _ | .fieldAddr _ _ _ | .alloc _ | .makeSlice _ _ _ => 0
  | _ => 3
theorem act_congr {P : Program} {N : Nat} {G : Nat → AV} {s s' : St} {d : Nat} {op : Op} (hk : kindOp P op ≤ 2) (hE : ∀ x ∈ op.operands.toList, ev N G s.env x = ev N G s'.env x)
    (hH : kindOp P op ≠ 0 → ∀ x ∈ op.operands.toList, Ag s.H s'.H (ev N G s.env x)) (hF : kindOp P op = 2 → ∀ x ∈ op.operands.toList, ∀ t, Has t (ev N G s.env x) → s.fr t = s'.fr t)
    (hN : (∀ ty p x, op ≠ .store ty p x) → (s.H (tg d 0)).isNone = (s'.H (tg d 0)).isNone) (hX : s.x.rd = s'.x.rd) : act P N G s d op = act P N G s' d op := by
  cases op
  case move x => simp only [act]; rw [hE x (by simp [Op.operands])]
  case assign x => simp only [act]; rw [hE x (by simp [Op.operands])]
  case pick c a b => simp only [act]; rw [hE c (by simp [Op.operands]), hE a (by simp [Op.operands]), hE b (by simp [Op.operands])]
  case binOp o t x y u => simp only [act]; rw [hE x (by simp [Op.operands]), hE y (by simp [Op.operands])]
  case unOp o t x => simp only [act]; rw [hE x (by simp [Op.operands])]
  case extract x i => simp only [act]; rw [hE x (by simp [Op.operands])]
  case field t x f => simp only [act]; rw [hE x (by simp [Op.operands])]
  case index t x i => simp only [act]; rw [hE x (by simp [Op.operands]), hE i (by simp [Op.operands])]
  case fieldAddr t x f => simp only [act]; rw [hE x (by simp [Op.operands])]
  case convert a b x => simp only [act]; rw [cvt_congr (hH (by simp [kindOp]) x (by simp [Op.operands])), hE x (by simp [Op.operands])]
  case nilCheck x => simp only [act]; rw [hE x (by simp [Op.operands])]
  case load ty x => simp only [act]; rw [ldX_congr (hH (by simp [kindOp]) x (by simp [Op.operands])) hX, hE x (by simp [Op.operands])]
  case indexAddr t x i => simp only [act]; rw [idxA_congr (hH (by simp [kindOp]) x (by simp [Op.operands])), hE x (by simp [Op.operands]), hE i (by simp [Op.operands])]
  case store ty p x =>
    simp only [act]
    rw [st_congr (hH (by simp [kindOp]) p (by simp [Op.operands])) (hH (by simp [kindOp]) x (by simp [Op.operands])) (hF (by simp [kindOp]) p (by simp [Op.operands])), hE x (by simp [Op.operands]), hE p (by simp [Op.operands])]
  case alloc ty => simp only [act]; rw [hN (by simp)]
  case makeSlice t l c => simp only [act]; rw [hN (by simp), hE l (by simp [Op.operands]), hE c (by simp [Op.operands])]
  case box ty x => simp only [act]; rw [hN (by simp), deep_congr (hH (by simp [kindOp]) x (by simp [Op.operands])), hE x (by simp [Op.operands])]
  case build t ps =>
    simp only [act]
    have : (ps.toList.map fun p => (p.1, ev N G s.env p.2)) = ps.toList.map fun p => (p.1, ev N G s'.env p.2) := by
      refine List.map_congr_left fun p hp => ?_
      rw [hE p.2 (by simp [Op.operands]; exact ⟨p.1, by simpa using hp⟩)]
    rw [this]
  case buildSlice t n ps =>
    simp only [act]
    have hm : ∀ p ∈ ps.toList, p.2 ∈ (Op.buildSlice t n ps).operands.toList := fun p hp => by simp [Op.operands]; exact ⟨p.1, by simpa using hp⟩
    have e1 : (ps.toList.map fun p => (p.1, ev N G s.env p.2)) = ps.toList.map fun p => (p.1, ev N G s'.env p.2) := by
      refine List.map_congr_left fun p hp => ?_
      rw [hE p.2 (hm p hp)]
    have e2 : ∀ xs, litRow n (ps.toList.map fun p => (p.1, ev N G s'.env p.2)) = some xs → deepAll s.H xs = deepAll s'.H xs := by
      intro xs hx
      unfold litRow at hx
      obtain ⟨_, hx⟩ := need_some hx
      obtain rfl := Option.some.inj hx
      refine deepAll_congr fun x hx => ?_
      simp only [List.map_map, List.mem_map, Function.comp] at hx
      obtain ⟨p, hp, rfl⟩ := hx
      have := hH (by simp [kindOp]) p.2 (hm p hp)
      rwa [hE p.2 (hm p hp)] at this
    rw [e1, hN (by simp)]
    cases hq : litRow n (ps.toList.map fun p => (p.1, ev N G s'.env p.2)) with
    | none => cases elS P t <;> rfl
    | some xs => cases elS P t with | none => rfl | some q => obtain ⟨a, b, c, z⟩ := q; dsimp only; rw [e2 xs hq]
  case slice t x lo hi m =>
    cases m
    · simp only [act]
      rw [cut_congr (hH (by simp [kindOp]) x (by simp [Op.operands])), hE x (by simp [Op.operands])]
      have e1 : lo.map (ev N G s.env) = lo.map (ev N G s'.env) := by
        cases lo with
        | none => rfl
        | some l => simp only [Option.map_some]; rw [hE l (by simp [Op.operands])]
      have e2 : hi.map (ev N G s.env) = hi.map (ev N G s'.env) := by
        cases hi with
        | none => rfl
        | some l => simp only [Option.map_some]; rw [hE l (by simp [Op.operands])]
      rw [e1, e2]
    · rfl
  case call c =>
    obtain ⟨ca, args, tys⟩ := c
    have hA : ∀ x ∈ args.toList, ev N G s.env x = ev N G s'.env x := fun x hx => hE x (by simp [Op.operands, Call.operands]; exact .inr (by simpa using hx))
    cases ca with
    | builtin b =>
      cases b <;> first
        | (exfalso; revert hk; simp [kindOp]; done)
        | (simp only [act]
           generalize args.toList = l at hA ⊢
           generalize tys.toList = l' at ⊢
           rcases l with _ | ⟨x, _ | ⟨y, _ | ⟨z, l⟩⟩⟩ <;> first
             | rfl
             | (simp only [hA x (by simp)]; done)
             | (simp only [hA x (by simp), hA y (by simp)]; done)
             | (rcases l' with _ | ⟨x', _ | ⟨y', l'⟩⟩ <;> first | rfl | (simp only [hA x (by simp)]; done)))
    | value f => rfl
    | invoke r m => rfl
  all_goals rfl
theorem deepS_tags {H : Nat → Option Row} {x y : AV} (h : deepS H x = some y) : ∀ t ∈ tagS x, H t ≠ none := by
  intro t ht
  cases x <;> simp [tagS] at ht
  subst ht
  intro e
  simp [deepS, e] at h
theorem deepL_tags {H : Nat → Option Row} : ∀ {l ys : List AV}, deepL H l = some ys → ∀ t ∈ l.flatMap tagS, H t ≠ none
  | [], _, _ => by simp
  | x :: l, ys, h => by
    simp only [deepL] at h
    split at h
    · rename_i y ys' h1 h2
      intro t ht
      simp only [List.flatMap_cons, List.mem_append] at ht
      rcases ht with ht | ht
      · exact deepS_tags h1 t ht
      · exact deepL_tags h2 t ht
    · cases h
theorem deep_tags {H : Nat → Option Row} {x y : AV} (h : deep H x = some y) : ∀ t ∈ tags x, H t ≠ none := by
  unfold deep at h
  split at h
  · split at h
    · rename_i ds hd
      exact deepL_tags hd
    · cases h
  · rename_i h0
    intro t ht
    refine deepS_tags h t ?_
    cases x <;> first | exact ht | exact absurd rfl (h0 _)
theorem deepAll_tags {H : Nat → Option Row} : ∀ {l ys : List AV}, deepAll H l = some ys → ∀ t ∈ l.flatMap tags, H t ≠ none
  | [], _, _ => by simp
  | x :: l, ys, h => by
    simp only [deepAll] at h
    split at h
    · rename_i y ys' h1 h2
      intro t ht
      simp only [List.flatMap_cons, List.mem_append] at ht
      rcases ht with ht | ht
      · exact deep_tags h1 t ht
      · exact deepAll_tags h2 t ht
    · cases h
theorem convL_tags2 {H : Nat → Option Row} {τ : List Nat} : ∀ {l ys : List AV}, convL τ H l = some ys → ∀ t ∈ l.flatMap tags, t ∉ τ → H t ≠ none
  | [], _, _ => by simp
  | x :: l, ys, h => by
    simp only [convL] at h
    split at h
    · rename_i y ys' h1 h2
      intro t ht hn
      simp only [List.flatMap_cons, List.mem_append] at ht
      rcases ht with ht | ht
      · unfold conv at h1
        split at h1
        · simp [tags, tagS] at ht
          subst ht
          have : τ.contains t = false := by rw [← Bool.not_eq_true, List.contains_iff_mem]; exact hn
          simp only [this, cond_false] at h1
          exact deep_tags h1 t (by simp [tags, tagS])
        · simp [tags, tagS] at ht
        · simp [tags, tagS] at ht
        · exact deep_tags h1 t ht
      · exact convL_tags2 h2 t ht hn
    · cases h
theorem convL_tags {H : Nat → Option Row} : ∀ {l ys : List AV}, convL [] H l = some ys → ∀ t ∈ l.flatMap tags, H t ≠ none
  | [], _, _ => by simp
  | x :: l, ys, h => by
    simp only [convL] at h
    split at h
    · rename_i y ys' h1 h2
      intro t ht
      simp only [List.flatMap_cons, List.mem_append] at ht
      rcases ht with ht | ht
      · unfold conv at h1
        split at h1
        · simp only [List.contains_nil, cond_false] at h1; exact deep_tags h1 t ht
        · simp [tags, tagS] at ht
        · simp [tags, tagS] at ht
        · exact deep_tags h1 t ht
      · exact convL_tags h2 t ht
    · cases h
structure Supp (s : St) (dst : Option Nat) (k : Nat) (b : Bool) (e : Eff) : Prop where
  xs : b = true ∨ e.xs = none
  w : e.wr ≠ [] → k = 2
  z : k = 0 → e.fz = []
  wt : ∀ p ∈ e.wr, s.H p.1 ≠ none
  ft : ∀ t ∈ e.fz, s.H t ≠ none
  n : e.new.length ≤ 16
  nt : ∀ d, dst = some d → ∀ j, j < e.new.length → s.H (tg d j) = none
  n0 : dst = none → e.new = []
theorem Supp.val {s : St} {dst : Option Nat} {k : Nat} {b : Bool} {e : Eff} (h1 : e.new = []) (h2 : e.wr = []) (h3 : e.fz = []) (h4 : e.xs = none) : Supp s dst k b e :=
  ⟨.inr h4, fun h => absurd h2 h, fun _ => h3, by simp [h2], by simp [h3], by simp [h1], by simp [h1], fun _ => h1⟩
theorem vo_val {x : Option AV} {e : Eff} (h : vo x = some e) : e.new = [] ∧ e.wr = [] ∧ e.fz = [] ∧ e.xs = none := by
  cases x <;> simp [vo, vl] at h
  subst h
  exact ⟨rfl, rfl, rfl, rfl⟩
theorem vl_val {x : AV} {e : Eff} (h : vl x = some e) : e.new = [] ∧ e.wr = [] ∧ e.fz = [] ∧ e.xs = none := by
  simp [vl] at h
  subst h
  exact ⟨rfl, rfl, rfl, rfl⟩
theorem act_supp {P : Program} {N : Nat} {G : Nat → AV} {s : St} {d : Nat} {op : Op} {e : Eff} {dst : Option Nat} (hk : kindOp P op ≤ 2) (hd : dst = some d ∨ (dst = none ∧ e.new = [])) (h : act P N G s d op = some e) : Supp s dst (kindOp P op) false e := by
  have V : (e.new = [] ∧ e.wr = [] ∧ e.fz = [] ∧ e.xs = none) → Supp s dst (kindOp P op) false e := fun ⟨a, b, c, d⟩ => .val a b c d
  have New : ∀ (r : Row) (x : AV) (fz : List Nat), s.H (tg d 0) = none → (∀ t ∈ fz, s.H t ≠ none) → (kindOp P op = 0 → fz = []) → e = { val := x, new := [r], fz := fz } → Supp s dst (kindOp P op) false e := by
    intro r x fz h1 h2 h3 he
    subst he
    refine ⟨.inr rfl, fun h => absurd rfl h, h3, by simp, h2, by simp, fun d' hd' j hj => ?_, fun h0 => ?_⟩
    · simp at hj
      subst hj
      rcases hd with hd | ⟨hd, _⟩
      · rw [hd] at hd'; obtain rfl := Option.some.inj hd'; exact h1
      · rw [hd] at hd'; cases hd'
    · rcases hd with hd | ⟨_, hd⟩
      · rw [hd] at h0; cases h0
      · exact hd
  cases op
  case move x => exact V (vl_val h)
  case assign x => exact V (vl_val h)
  case pick c a b =>
    simp only [act] at h
    split at h
    · exact V (vl_val h)
    · cases h
  case binOp => exact V (vo_val h)
  case unOp => exact V (vo_val h)
  case convert => exact V (vo_val h)
  case index => exact V (vo_val h)
  case indexAddr => exact V (vo_val h)
  case fieldAddr => exact V (vo_val h)
  case load => exact V (vo_val h)
  case nilCheck => exact V (vo_val h)
  case build => exact V (vo_val h)
  case extract x i =>
    simp only [act] at h
    split at h
    · exact V (vo_val h)
    · cases h
  case field t x f =>
    simp only [act] at h
    split at h
    · split at h
      · exact V (vo_val h)
      · cases h
    · cases h
  case slice t x lo hi m =>
    cases m with
    | none => exact V (vo_val h)
    | some m => simp [act] at h
  case store ty p x =>
    simp only [act, st] at h
    split at h
    · split at h
      · split at h
        · obtain ⟨hc, h⟩ := need_some h
          obtain rfl := Option.some.inj h
          refine ⟨.inr rfl, fun _ => rfl, by simp [kindOp], by simp [*], deep_tags (by assumption), by simp, by simp, fun _ => rfl⟩
        · cases h
      · cases h
    · cases h
  case alloc ty =>
    simp only [act] at h
    split at h
    · obtain ⟨hc, h⟩ := need_some h
      simp only [Bool.and_eq_true, Option.isNone_iff_eq_none] at hc
      exact New _ _ [] hc.1.1 (by simp) (fun _ => rfl) (Option.some.inj h).symm
    · cases h
  case box ty x =>
    simp only [act] at h
    split at h
    · rename_i hy
      obtain ⟨hc, h⟩ := need_some h
      simp only [Bool.and_eq_true, Option.isNone_iff_eq_none] at hc
      exact New _ _ _ hc.1.1.1 (deep_tags hy) (by simp [kindOp]) (Option.some.inj h).symm
    · cases h
  case buildSlice t n ps =>
    simp only [act] at h
    split at h
    · split at h
      · rename_i hy
        obtain ⟨hc, h⟩ := need_some h
        simp only [Bool.and_eq_true, Option.isNone_iff_eq_none] at hc
        exact New _ _ _ hc.1.1.1.1 (deepAll_tags hy) (by simp [kindOp]) (Option.some.inj h).symm
      · cases h
    · cases h
  case makeSlice t l c =>
    simp only [act] at h
    split at h
    · obtain ⟨_, h⟩ := need_some h
      obtain ⟨_, h⟩ := need_some h
      obtain ⟨_, h⟩ := need_some h
      obtain ⟨hc, h⟩ := need_some h
      simp only [Bool.and_eq_true, Option.isNone_iff_eq_none] at hc
      exact New _ _ [] hc.1.1 (by simp) (fun _ => rfl) (Option.some.inj h).symm
    · cases h
  case call c =>
    obtain ⟨ca, args, tys⟩ := c
    cases ca with
    | builtin b =>
      cases b <;> first
        | (exfalso; revert hk; simp [kindOp]; done)
        | (simp only [act] at h
           split at h
           · first
               | exact V (vo_val h)
               | (split at h
                  · exact V (vl_val h)
                  · cases h)
           · cases h)
    | value f => simp [act] at h
    | invoke r m => simp [act] at h
  all_goals (simp [act] at h)
def isRs (P : Program) (o : Oper) : Bool := match o.op with
  | .call c => match c.callee with | .value (.func f) => isX P f | _ => false
  | _ => false
def isSt : Op → Bool
  | .store _ _ _ => true
  | _ => false
inductive StepD (X : Cx) (ops : Array Oper) (s : St) (o : Oper) (e : Eff) : Prop
  | skip (hg : gd X.N ops s.env o = some false) (he : e = { val := .undef })
  | act (d : Nat) (hg : gd X.N ops s.env o = some true) (hd : o.dst = some d ∨ (o.dst = none ∧ e.new = [] ∧ isSt o.op = true)) (h : act X.P X.N X.G s d o.op = some e)
  | call (hg : gd X.N ops s.env o = some true) (h : Ca X s o e [])
  | callW (τ : List Nat) (f : Nat) (args : Array Operand) (tys : Array TypeId) (hg : gd X.N ops s.env o = some true) (h : Ca X s o e τ) (hf : o.op = .call { callee := .value (.func f), args, argTypes := tys }) (hw : isW X.P f = true) (hτ : ∀ t ∈ τ, ∃ x ∈ args.toList, Has t (ev X.N X.G s.env x))
def okOp (P : Program) (o : Oper) : Bool := decide (kindOp P o.op ≤ 2) && (o.dst.isSome || isSt o.op)
section
variable {X : Cx} {ops : Array Oper} {s s' : St} {o : Oper} {e : Eff}
theorem StepD.of (h : StepA X ops s o s') (hk : okOp X.P o = true) : ∃ e, StepD X ops s o e ∧ s' = s.app o.dst e := by
  simp only [okOp, Bool.and_eq_true, decide_eq_true_eq, Bool.or_eq_true] at hk
  cases h with
  | step h =>
    cases h with
    | skip hg =>
      refine ⟨_, .skip hg rfl, ?_⟩
      cases o.dst <;> rfl
    | act d e hg hd h =>
      refine ⟨e, .act d hg ?_ h, rfl⟩
      rcases hd with hd | ⟨hd, hn⟩
      · exact .inl hd
      · exact .inr ⟨hd, hn, hk.2.resolve_left (by simp [hd])⟩
    | call e hg h => exact ⟨e, .call hg h, rfl⟩
  | callW e τ f args tys hg h hf hw hs hτ => exact ⟨e, .callW τ f args tys hg h hf hw hτ, hs⟩
  | app d x y t hg hd ho h =>
    exfalso
    have := hk.1
    rw [ho] at this
    simp [kindOp] at this
theorem StepD.to (h : StepD X ops s o e) : StepA X ops s o (s.app o.dst e) := by
  cases h with
  | skip hg he =>
    subst he
    have : s.app o.dst { val := .undef } = { s with env := putE s.env o.dst .undef } := by cases o.dst <;> rfl
    rw [this]
    exact .step (.skip hg)
  | act d hg hd h => exact .step (.act d e hg (hd.imp id fun h => ⟨h.1, h.2.1⟩) h)
  | call hg h => exact .step (.call e hg h)
  | callW τ f args tys hg h hf hw hτ => exact .callW e τ f args tys hg h hf hw rfl hτ
theorem gd_congr {env env' : Nat → AV} {N : Nat} (h : ∀ t ∈ o.looksAt ops, env t = env' t) : gd N ops env o = gd N ops env' o := by
  unfold gd
  cases hg : o.guard with
  | none => rfl
  | some q =>
    obtain ⟨j, want⟩ := q
    dsimp only
    cases hd : (ops[j]?).bind (·.dst) with
    | none => rfl
    | some d =>
      dsimp only
      rw [h d (by simp only [Oper.looksAt, hg, List.mem_append, Option.mem_toList]; exact .inr hd)]
theorem ev_looks {env env' : Nat → AV} {N : Nat} {G : Nat → AV} (h : ∀ t ∈ o.looksAt ops, env t = env' t) : ∀ x ∈ o.op.operands.toList, ev N G env x = ev N G env' x := by
  intro x hx
  cases x <;> simp only [ev]
  rename_i t
  rw [h t (by
    simp only [Oper.looksAt, List.mem_append, List.mem_filterMap]
    exact .inl ⟨_, hx, rfl⟩)]
theorem StepD.loc (h : StepD X ops s o e) (hk : kindOp X.P o.op ≤ 2) (hE : ∀ t ∈ o.looksAt ops, s.env t = s'.env t)
    (hH : kindOp X.P o.op ≠ 0 → ∀ x ∈ o.op.operands.toList, Ag s.H s'.H (ev X.N X.G s.env x))
    (hF : kindOp X.P o.op = 2 → ∀ x ∈ o.op.operands.toList, ∀ t, Has t (ev X.N X.G s.env x) → s.fr t = s'.fr t)
    (hN : ∀ d, o.dst = some d → ∀ j, j < 16 → (s.H (tg d j)).isNone = (s'.H (tg d j)).isNone) (hX : s.x.rd = s'.x.rd) (hXs : isRs X.P o = true → s.x = s'.x) : StepD X ops s' o e := by
  have hg' := gd_congr (N := X.N) hE
  have hev := ev_looks (N := X.N) (G := X.G) hE
  cases h with
  | skip hg he => exact .skip (by rw [← hg']; exact hg) he
  | act d hg hd h =>
    refine .act d (by rw [← hg']; exact hg) hd ?_
    rw [← act_congr hk hev hH hF (fun hns => ?_) hX]
    · exact h
    · rcases hd with hd | ⟨_, _, hs⟩
      · exact hN d hd 0 (by omega)
      · exfalso
        cases hop : o.op <;> rw [hop] at hs <;> simp [isSt] at hs
        exact hns _ _ _ hop
  | call hg h =>
    refine .call (by rw [← hg']; exact hg) ?_
    obtain ⟨f, args, tys, ins, outs, cargs, res, cl, gh, ho, hτl, hτn, hτ, hc, hag, hh, hgh, hcl, htag, hd, h16, he, hx⟩ := h
    have hA : args.toList.map (ev X.N X.G s.env) = args.toList.map (ev X.N X.G s'.env) := List.map_congr_left fun x hx => hev x (by rw [ho]; simp [Op.operands, Call.operands]; exact .inr (by simpa using hx))
    have hk1 : kindOp X.P o.op ≠ 0 := by
      rw [ho]
      simp only [kindOp]
      cases isW X.P f <;> simp
    have hins : ins = [] := List.eq_nil_of_length_eq_zero hτl.symm
    subst hins
    refine ⟨f, args, tys, [], outs, cargs, res, cl, gh, ho, hτl, hτn, fun j r hj => by simp at hj, ?_, by rw [← hA]; exact hag, hh, hgh, hcl, by rw [← hA]; exact htag, fun d hd' j hj => ?_, h16, by rw [← hA]; exact he, ?_⟩
    rotate_right
    · rcases hx with hx | ⟨h1, h2, h3, y, h4, h5, h6⟩
      · exact .inl hx
      · have e := hXs (by simp only [isRs, ho]; exact h3)
        exact .inr ⟨by rw [← e]; exact h1, h2, h3, y, h4, by rw [← e]; exact h5, h6⟩
    · rw [← hA, ← convL_congr (H := s.H)]
      · exact hc
      · intro x hx
        obtain ⟨y, hy, rfl⟩ := List.mem_map.1 hx
        exact hH hk1 y (by rw [ho]; simp [Op.operands, Call.operands]; exact .inr (by simpa using hy))
    · have e0 : tg d 0 + j = tg d j := by unfold tg; omega
      have h0 := hd d hd' j hj
      rw [e0] at h0 ⊢
      have := hN d hd' j (by omega)
      rw [h0] at this
      simpa using this.symm
  | callW τ f args tys hg h hf hw hτa =>
    refine .callW τ f args tys (by rw [← hg']; exact hg) ?_ hf hw ?_
    rotate_left
    · intro t ht
      obtain ⟨x, hx, hh⟩ := hτa t ht
      exact ⟨x, hx, by rw [← hev x (by rw [hf]; simp [Op.operands, Call.operands]; exact .inr (by simpa using hx))]; exact hh⟩
    obtain ⟨f', args', tys', ins, outs, cargs, res, cl, gh, ho, hτl, hτn, hτ, hc, hag, hh, hgh, hcl, htag, hd, h16, he, hx⟩ := h
    have e0 := ho.symm.trans hf
    injection e0 with e0
    injection e0 with e1 e2 e3
    injection e1 with e1
    injection e1 with e1
    subst e1 e2 e3
    have hk2 : kindOp X.P o.op = 2 := by rw [hf]; simp [kindOp, hw]
    have hopd : ∀ x ∈ args'.toList, x ∈ o.op.operands.toList := fun x hx => by rw [ho]; simp [Op.operands, Call.operands]; exact .inr (by simpa using hx)
    have hA : args'.toList.map (ev X.N X.G s.env) = args'.toList.map (ev X.N X.G s'.env) := List.map_congr_left fun x hx => hev x (hopd x hx)
    refine ⟨f', args', tys', ins, outs, cargs, res, cl, gh, ho, hτl, hτn, fun j r hj => ?_, ?_, by rw [← hA]; exact hag, hh, hgh, hcl, by rw [← hA]; exact htag, fun d hd' j hj => ?_, h16, by rw [← hA]; exact he, ?_⟩
    · obtain ⟨h1, h2⟩ := hτ j r hj
      have hjl : j < τ.length := by rw [hτl]; exact (List.getElem?_eq_some_iff.1 hj).1
      obtain ⟨x, hx', hhas⟩ := hτa (τ.getD j 0) (by simp [hjl])
      rw [← hH (by omega) x (hopd x hx') _ hhas, ← hF hk2 x (hopd x hx') _ hhas]
      exact ⟨h1, h2⟩
    · rw [← hA, ← convL_congr (H := s.H)]
      · exact hc
      · intro x hx
        obtain ⟨y, hy, rfl⟩ := List.mem_map.1 hx
        exact hH (by omega) y (hopd y hy)
    · have e0 : tg d 0 + j = tg d j := by unfold tg; omega
      have h0 := hd d hd' j hj
      rw [e0] at h0 ⊢
      have := hN d hd' j (by omega)
      rw [h0] at this
      simpa using this.symm
    · rcases hx with hx | ⟨h1, h2, h3, y, h4, h5, h6⟩
      · exact .inl hx
      · have e := hXs (by simp only [isRs, ho]; exact h3)
        exact .inr ⟨by rw [← e]; exact h1, h2, h3, y, h4, by rw [← e]; exact h5, h6⟩
theorem StepD.supp (h : StepD X ops s o e) (hk : okOp X.P o = true) : Supp s o.dst (kindOp X.P o.op) (isRs X.P o) e := by
  simp only [okOp, Bool.and_eq_true, decide_eq_true_eq, Bool.or_eq_true] at hk
  cases h with
  | skip hg he => subst he; exact .val rfl rfl rfl rfl
  | act d hg hd h =>
    have := act_supp hk.1 (hd.imp id fun h => ⟨h.1, h.2.1⟩) h
    exact { this with xs := .inr (this.xs.resolve_left (by simp)) }
  | call hg h =>
    obtain ⟨f, args, tys, ins, outs, cargs, res, cl, gh, ho, hτl, hτn, hτ, hc, hag, hh, hgh, hcl, htag, hd, h16, rfl, hx⟩ := h
    have hins : ins = [] := List.eq_nil_of_length_eq_zero hτl.symm
    subst hins
    refine ⟨?_, fun h => absurd rfl h, fun h0 => ?_, by simp, fun t ht => ?_, by simpa using h16, fun d hd' j hj => (by unfold tg; have := hd d hd' j (by simpa using hj); unfold tg at this; simpa using this), fun h0 => ?_⟩
    · rcases hx with ⟨_, hx⟩ | ⟨_, _, hx, _⟩
      · exact .inr hx
      · exact .inl (by simp only [isRs, ho]; exact hx)
    · exfalso
      rw [ho] at h0
      simp only [kindOp] at h0
      revert h0
      cases isW X.P f <;> simp
    · dsimp only at ht
      split at ht
      · simp at ht
      · simp only [lentT, List.mem_filter] at ht
        exact convL_tags hc t ht.1
    · rw [h0] at hk
      have := hk.2
      rw [ho] at this
      simp [isSt] at this
  | callW τ f args tys hg h hf hw hτa =>
    have hk2 : kindOp X.P o.op = 2 := by rw [hf]; simp [kindOp, hw]
    obtain ⟨f', args', tys', ins, outs, cargs, res, cl, gh, ho, hτl, hτn, hτ, hc, hag, hh, hgh, hcl, htag, hd, h16, rfl, hx⟩ := h
    refine ⟨?_, fun _ => hk2, fun h0 => by omega, fun p hp => ?_, fun t ht => ?_, by simpa using h16, fun d hd' j hj => (by unfold tg; have := hd d hd' j (by simpa using hj); unfold tg at this; simpa using this), fun h0 => ?_⟩
    · rcases hx with ⟨_, hx⟩ | ⟨_, _, hx, _⟩
      · exact .inr hx
      · exact .inl (by simp only [isRs, ho]; exact hx)
    · have hm := (List.of_mem_zip hp).1
      obtain ⟨j, hj, hje⟩ := List.getElem_of_mem hm
      have hji : j < ins.length := by omega
      have := (hτ j ins[j] (by simp [hji])).1
      rw [show τ.getD j 0 = p.1 by simp [hj, hje]] at this
      rw [this]; simp
    · dsimp only at ht
      split at ht
      · simp at ht
      · simp only [lentT, List.mem_filter, Bool.not_eq_true', ← Bool.not_eq_true, List.contains_iff_mem] at ht
        exact convL_tags2 hc t ht.1 ht.2
    · rw [h0] at hk
      have := hk.2
      rw [ho] at this
      simp [isSt] at this
theorem app_x (s : St) (d : Option Nat) (e : Eff) : (s.app d e).x = e.xs.getD s.x := by cases d <;> rfl
theorem StepD.rd (h : StepD X ops s o e) (hk : okOp X.P o = true) : (s.app o.dst e).x.rd = s.x.rd ∧ (isRs X.P o = false → (s.app o.dst e).x = s.x) := by
  have hs := h.supp hk
  rw [app_x]
  refine ⟨?_, fun hr => ?_⟩
  · cases h with
    | skip hg he => subst he; rfl
    | act d hg hd h => rw [(act_supp (by simp only [okOp, Bool.and_eq_true, decide_eq_true_eq] at hk; exact hk.1) (hd.imp id fun h => ⟨h.1, h.2.1⟩) h).xs.resolve_left (by simp)]; rfl
    | call hg h =>
      obtain ⟨f, args, tys, ins, outs, cargs, res, cl, gh, ho, hτl, hτn, hτ, hc, hag, hh, hgh, hcl, htag, hd, h16, rfl, hx⟩ := h
      rcases hx with ⟨_, rfl⟩ | ⟨_, _, _, y, rfl, h1, _⟩
      · rfl
      · exact h1
    | callW τ f args tys hg h hf hw hτa =>
      obtain ⟨f, args, tys, ins, outs, cargs, res, cl, gh, ho, hτl, hτn, hτ, hc, hag, hh, hgh, hcl, htag, hd, h16, rfl, hx⟩ := h
      rcases hx with ⟨_, rfl⟩ | ⟨_, _, _, y, rfl, h1, _⟩
      · rfl
      · exact h1
  · rw [hs.xs.resolve_left (by simp [hr])]; rfl
end
end Go.Proofs.YtpchdjdochkjpaaGreatDoor.Am
set_option linter.unusedVariables false
set_option linter.unusedSimpArgs false
namespace Go.Proofs.YtpchdjdochkjpaaGreatDoor.Am
open Go Go.RowKit
theorem putW_form : ∀ (w : List (Nat × Row)), ∃ f : Nat → Option Row, (∀ t ∈ w.map (·.1), f t ≠ none) ∧ ∀ (H : Nat → Option Row) t, putW H w t = if t ∈ w.map (·.1) then f t else H t
  | [] => ⟨fun _ => none, by simp, fun H t => by simp [putW]⟩
  | p :: w => by
    obtain ⟨f, h0, hf⟩ := putW_form w
    refine ⟨fun t => if t ∈ w.map (·.1) then f t else some p.2, fun t ht => ?_, fun H t => ?_⟩
    · by_cases h : t ∈ w.map (·.1)
      · simp only [if_pos h]; exact h0 t h
      · simp only [if_neg h]; simp
    simp only [putW, hf, upd_apply, List.map_cons, List.mem_cons]
    by_cases h : t ∈ w.map (·.1)
    · simp [h]
    · by_cases h2 : t = p.1 <;> simp [h, h2]
theorem frz_form : ∀ (l : List Nat) (f : Nat → Bool) t, frz f l t = if t ∈ l then true else f t
  | [], f, t => by simp [frz]
  | a :: l, f, t => by
    simp only [frz, frz_form l, upd_apply, List.mem_cons]
    by_cases h : t ∈ l
    · simp [h]
    · by_cases h2 : t = a <;> simp [h, h2]
def inNew (dst : Option Nat) (n t : Nat) : Prop := ∃ d, dst = some d ∧ tg d 0 ≤ t ∧ t < tg d 0 + n
theorem app_H (dst : Option Nat) (e : Eff) : ∃ f : Nat → Option Row, (∀ t, (t ∈ e.wr.map (·.1) ∨ inNew dst e.new.length t) → f t ≠ none) ∧ ∀ (s : St) t, ((t ∈ e.wr.map (·.1) ∨ inNew dst e.new.length t) → (s.app dst e).H t = f t) ∧ (¬ (t ∈ e.wr.map (·.1) ∨ inNew dst e.new.length t) → (s.app dst e).H t = s.H t) := by
  obtain ⟨f, h0, hf⟩ := putW_form e.wr
  cases dst with
  | none =>
    refine ⟨f, fun t h => ?_, fun s t => ⟨fun h => ?_, fun h => ?_⟩⟩
    · rcases h with h | ⟨d, hd, _⟩
      · exact h0 t h
      · cases hd
    · rcases h with h | ⟨d, hd, _⟩
      · simp only [St.app, hf, if_pos h]
      · cases hd
    · simp only [not_or] at h
      simp only [St.app, hf, if_neg h.1]
  | some d =>
    refine ⟨fun t => if tg d 0 ≤ t ∧ t < tg d 0 + e.new.length then e.new[t - tg d 0]? else f t, fun t h => ?_, fun s t => ⟨fun h => ?_, fun h => ?_⟩⟩
    · by_cases hn : tg d 0 ≤ t ∧ t < tg d 0 + e.new.length
      · simp only [if_pos hn]
        rw [List.getElem?_eq_getElem (by omega)]
        simp
      · simp only [if_neg hn]
        rcases h with h | ⟨d', hd', h⟩
        · exact h0 t h
        · obtain rfl := Option.some.inj hd'; exact absurd h hn
    · simp only [St.app, newH_get, hf]
      by_cases hn : tg d 0 ≤ t ∧ t < tg d 0 + e.new.length
      · rw [if_pos hn, if_pos hn]
      · rw [if_neg hn, if_neg hn]
        rcases h with h | ⟨d', hd', h⟩
        · rw [if_pos h]
        · obtain rfl := Option.some.inj hd'; exact absurd h hn
    · simp only [not_or] at h
      simp only [St.app, newH_get, hf]
      rw [if_neg (fun hn => h.2 ⟨d, rfl, hn⟩), if_neg h.1]
theorem app_fr (dst : Option Nat) (e : Eff) (s : St) (t : Nat) : (inNew dst e.new.length t → (s.app dst e).fr t = false) ∧ (¬ inNew dst e.new.length t → (s.app dst e).fr t = if t ∈ e.fz then true else s.fr t) := by
  cases dst with
  | none => exact ⟨fun ⟨d, hd, _⟩ => (by cases hd), fun _ => (by simp only [St.app, frz_form])⟩
  | some d =>
    refine ⟨fun ⟨d', hd', h⟩ => ?_, fun h => ?_⟩
    · obtain rfl := Option.some.inj hd'
      simp only [St.app, newF_get]
      rw [if_pos h]
    · simp only [St.app, newF_get]
      rw [if_neg (fun hn => h ⟨d, rfl, hn⟩), frz_form]
theorem app_env (dst : Option Nat) (e : Eff) (s : St) (i : Nat) : (s.app dst e).env i = if dst = some i then e.val else s.env i := by
  cases dst with
  | none => simp [St.app]
  | some d => simp only [St.app, upd_apply, Option.some.injEq]; by_cases h : i = d <;> simp [h, eq_comm]
theorem inNew_ne {d d' n n' : Nat} {t : Nat} (hn : n ≤ 16) (hn' : n' ≤ 16) (h : tg d 0 ≤ t ∧ t < tg d 0 + n) (h' : tg d' 0 ≤ t ∧ t < tg d' 0 + n') : d = d' := by
  unfold tg at *; omega
theorem app_comm {s : St} {x y : Option Nat} {kx ky : Nat} {bx bf : Bool} {e f : Eff} (he : Supp s x kx bx e) (hf : Supp s y ky bf f) (hd : ∀ d, x = some d → y ≠ some d) (hk : kx = 2 → f.wr = [] ∧ f.fz = [] ) (hk' : ky = 2 → e.wr = [] ∧ e.fz = []) (hx : e.xs = none ∨ f.xs = none) :
    (s.app x e).app y f = (s.app y f).app x e := by
  have hw : ∀ t, ¬ ((t ∈ e.wr.map (·.1) ∨ inNew x e.new.length t) ∧ (t ∈ f.wr.map (·.1) ∨ inNew y f.new.length t)) := by
    rintro t ⟨h1, h2⟩
    have N1 : ∀ t, inNew x e.new.length t → s.H t = none := fun t ⟨d, hd, a, b⟩ => by
      have := he.nt d hd (t - tg d 0) (by omega)
      rwa [show tg d (t - tg d 0) = t by unfold tg at *; omega] at this
    have N2 : ∀ t, inNew y f.new.length t → s.H t = none := fun t ⟨d, hd, a, b⟩ => by
      have := hf.nt d hd (t - tg d 0) (by omega)
      rwa [show tg d (t - tg d 0) = t by unfold tg at *; omega] at this
    rcases h1 with h1 | h1 <;> rcases h2 with h2 | h2
    · have hne : e.wr ≠ [] := fun e0 => by simp [e0] at h1
      rw [(hk (he.w hne)).1] at h2
      simp at h2
    · obtain ⟨p, hp, rfl⟩ := List.mem_map.1 h1
      exact he.wt p hp (N2 _ h2)
    · obtain ⟨p, hp, rfl⟩ := List.mem_map.1 h2
      exact hf.wt p hp (N1 _ h1)
    · obtain ⟨d, hx, hr⟩ := h1
      obtain ⟨d', hy, hr'⟩ := h2
      have := inNew_ne he.n hf.n hr hr'
      exact hd d hx (this ▸ hy)
  have hfn : ∀ t, t ∈ e.fz → ¬ inNew y f.new.length t := fun t h1 ⟨d, hd, a, b⟩ => by
    have := hf.nt d hd (t - tg d 0) (by omega)
    rw [show tg d (t - tg d 0) = t by unfold tg at *; omega] at this
    exact he.ft t h1 this
  have hfn' : ∀ t, t ∈ f.fz → ¬ inNew x e.new.length t := fun t h1 ⟨d, hd, a, b⟩ => by
    have := he.nt d hd (t - tg d 0) (by omega)
    rw [show tg d (t - tg d 0) = t by unfold tg at *; omega] at this
    exact hf.ft t h1 this
  obtain ⟨fx, _, hfx⟩ := app_H x e
  obtain ⟨fy, _, hfy⟩ := app_H y f
  have hext : ∀ {a b : St}, (∀ i, a.env i = b.env i) → (∀ t, a.H t = b.H t) → (∀ t, a.fr t = b.fr t) → a.x = b.x → a = b := fun {a b} h1 h2 h3 h4 => by
    cases a; cases b
    simp only [St.mk.injEq]
    exact ⟨funext h1, funext h2, funext h3, h4⟩
  refine hext (fun i => ?_) (fun t => ?_) (fun t => ?_) (by rw [app_x, app_x, app_x, app_x]; rcases hx with hx | hx <;> rw [hx] <;> rfl)
  · simp only [app_env]
    by_cases h1 : x = some i
    · simp [h1, hd i h1]
    · simp [h1]
  · by_cases h1 : t ∈ e.wr.map (·.1) ∨ inNew x e.new.length t
    · have h2 : ¬ (t ∈ f.wr.map (·.1) ∨ inNew y f.new.length t) := fun h2 => hw t ⟨h1, h2⟩
      rw [(hfy _ t).2 h2, (hfx _ t).1 h1, (hfx _ t).1 h1]
    · by_cases h2 : t ∈ f.wr.map (·.1) ∨ inNew y f.new.length t
      · rw [(hfy _ t).1 h2, (hfx _ t).2 h1, (hfy _ t).1 h2]
      · rw [(hfy _ t).2 h2, (hfx _ t).2 h1, (hfx _ t).2 h1, (hfy _ t).2 h2]
  · by_cases h1 : inNew x e.new.length t
    · have h2 : ¬ inNew y f.new.length t := fun h2 => hw t ⟨.inr h1, .inr h2⟩
      rw [(app_fr y f _ t).2 h2, (app_fr x e _ t).1 h1, (app_fr x e _ t).1 h1, if_neg (fun h => hfn' t h h1)]
    · by_cases h2 : inNew y f.new.length t
      · rw [(app_fr y f _ t).1 h2, (app_fr x e _ t).2 h1, (app_fr y f _ t).1 h2, if_neg (fun h => hfn t h h2)]
      · rw [(app_fr y f _ t).2 h2, (app_fr x e _ t).2 h1, (app_fr x e _ t).2 h1, (app_fr y f _ t).2 h2]
        by_cases a : t ∈ e.fz <;> by_cases b : t ∈ f.fz <;> simp [a, b]
def Inh (X : Cx) (s : St) : Prop := ∃ fz β a w, Rel X s fz β a w
theorem wp_const {P : Program} {o : Oper} {a : Act} {w : World} {C : Prop} (h : o.wp P a w (fun _ _ => C) (fun _ _ _ => C)) : C := by
  unfold Oper.wp at h
  generalize (execOp a.eval o).run P w = r at h
  cases r with
  | ok n w' =>
    cases n <;> simp only [Oper.upon] at h <;> first
      | exact h
      | (obtain ⟨e, w'', fr, h, _⟩ := h []
         cases e
         · exact h
         · exact h
         · obtain ⟨_, _, h⟩ := h; exact h)
      | (obtain ⟨v, w'', h, _⟩ := h default []; exact h)
  | halt x w' => cases x <;> simp only [Oper.upon] at h <;> exact h
section
variable {X : Cx} {ops : Array Oper} {s s' : St} {o o' : Oper} {e e' : Eff}
theorem Inh.step (h : Inh X s) (ho : StepD X ops s o e) : Inh X (s.app o.dst e) := by
  obtain ⟨fz, β, a, w, hR⟩ := h
  cases ho with
  | skip hg he =>
    subst he
    have h2 := hR.put (x := .undef) (v := undef) .undef o.dst
    have : s.app o.dst { val := .undef } = { s with env := match o.dst with | some d => upd s.env d .undef | none => s.env } := by cases o.dst <;> rfl
    rw [this]
    exact ⟨_, _, _, _, h2⟩
  | act d hg hd h =>
    obtain ⟨v, w', β', fz', h1, h2⟩ := act_ok hR h (hd.imp id fun h => ⟨h.1, h.2.1⟩)
    exact ⟨_, _, _, _, h2⟩
  | callW τ f args tys hg h hf hw hτ =>
    exact wp_const (call_ok hR h (K := fun _ _ => Inh X (s.app o.dst e)) (Q := fun _ _ _ => Inh X (s.app o.dst e)) fun a' w' β' fz' hR' => ⟨_, _, _, _, hR'⟩)
  | call hg h =>
    exact wp_const (call_ok hR h (K := fun _ _ => Inh X (s.app o.dst e)) (Q := fun _ _ _ => Inh X (s.app o.dst e)) fun a' w' β' fz' hR' => ⟨_, _, _, _, hR'⟩)
def confO (P : Program) (ops : Array Oper) (p q : Oper) : Bool :=
  !p.apart ops q || (kindOp P p.op == 2 && kindOp P q.op != 0) || (kindOp P q.op == 2 && kindOp P p.op != 0) || (isRs P p && isRs P q)
theorem Inh.has (h : Inh X s) {x : Operand} {t : Nat} (ht : Has t (ev X.N X.G s.env x)) : s.H t ≠ none := by
  obtain ⟨fz, β, a, w, hR⟩ := h
  have := (ev_V hR x).has t ht
  intro e
  exact this (by simp [St.dm, e])
theorem StepD.swap (hI : Inh X s) (h : StepD X ops s o e) (h' : StepD X ops (s.app o.dst e) o' e') (hk : okOp X.P o = true) (hk' : okOp X.P o' = true) (hc : confO X.P ops o o' = false) :
    StepD X ops s o' e' ∧ StepD X ops (s.app o'.dst e') o e ∧ (s.app o.dst e).app o'.dst e' = (s.app o'.dst e').app o.dst e := by
  simp only [confO, Bool.or_eq_false_iff, Bool.not_eq_false', Bool.and_eq_false_iff, beq_eq_false_iff_ne, bne_eq_false_iff_eq] at hc
  obtain ⟨⟨⟨hap, hc1⟩, hc2⟩, hc3⟩ := hc
  obtain ⟨a1, a2, a3⟩ := Oper.apart_spec hap
  have k1 : kindOp X.P o.op ≤ 2 := by simp only [okOp, Bool.and_eq_true, decide_eq_true_eq] at hk; exact hk.1
  have k2 : kindOp X.P o'.op ≤ 2 := by simp only [okOp, Bool.and_eq_true, decide_eq_true_eq] at hk'; exact hk'.1
  have key : ∀ {s : St} {o o' : Oper} {e e' : Eff}, Inh X s → Supp s o.dst (kindOp X.P o.op) (isRs X.P o) e → (∀ d, o.dst = some d → d ∉ o'.looksAt ops) → (∀ d, o.dst = some d → o'.dst ≠ some d) → (kindOp X.P o.op = 2 → kindOp X.P o'.op = 0) → (kindOp X.P o'.op = 2 → kindOp X.P o.op = 0) →
      (∀ t ∈ o'.looksAt ops, s.env t = (s.app o.dst e).env t) ∧ (kindOp X.P o'.op ≠ 0 → ∀ x ∈ o'.op.operands.toList, Ag s.H (s.app o.dst e).H (ev X.N X.G s.env x)) ∧
      (kindOp X.P o'.op = 2 → ∀ x ∈ o'.op.operands.toList, ∀ t, Has t (ev X.N X.G s.env x) → s.fr t = (s.app o.dst e).fr t) ∧ (∀ d, o'.dst = some d → ∀ j, j < 16 → (s.H (tg d j)).isNone = ((s.app o.dst e).H (tg d j)).isNone) := by
    intro s o o' e e' hI hs a1 a2 c1 c2
    obtain ⟨fx, hf0, hfx⟩ := app_H o.dst e
    have Nw : ∀ t, inNew o.dst e.new.length t → s.H t = none := fun t ⟨d, hd, a, b⟩ => by
      have := hs.nt d hd (t - tg d 0) (by omega)
      rwa [show tg d (t - tg d 0) = t by unfold tg at *; omega] at this
    refine ⟨fun t ht => ?_, fun hk0 x hx t ht => ?_, fun hk2 x hx t ht => ?_, fun d hd j hj => ?_⟩
    · rw [app_env, if_neg]
      intro hd
      exact a1 t hd ht
    · refine ((hfx s t).2 ?_).symm
      rintro (hw | hn)
      · have : e.wr ≠ [] := fun e0 => by simp [e0] at hw
        exact hk0 (c1 (hs.w this))
      · exact hI.has ht (Nw t hn)
    · have hn : ¬ inNew o.dst e.new.length t := fun hn => hI.has ht (Nw t hn)
      rw [(app_fr o.dst e s t).2 hn, hs.z (c2 hk2)]
      simp
    · have hn : ¬ inNew o.dst e.new.length (tg d j) := fun ⟨d', hd', a, b⟩ => by
        have hn := hs.n
        have : d' = d := by unfold tg at a b; omega
        exact a2 d' hd' (this ▸ hd)
      by_cases hw : tg d j ∈ e.wr.map (·.1)
      · obtain ⟨p, hp, hpe⟩ := List.mem_map.1 hw
        have h1 := hs.wt p hp
        rw [hpe] at h1
        have h2 := hf0 _ (.inl hw)
        rw [← (hfx s _).1 (.inl hw)] at h2
        cases q1 : s.H (tg d j) with
        | none => exact absurd q1 h1
        | some r =>
          cases q2 : (s.app o.dst e).H (tg d j) with
          | none => exact absurd q2 h2
          | some r' => rfl
      · rw [(hfx s _).2 (fun h => h.elim hw hn)]
  have hs := h.supp hk
  have c1 : kindOp X.P o.op = 2 → kindOp X.P o'.op = 0 := fun h => hc1.resolve_left (fun g => g h)
  have c2 : kindOp X.P o'.op = 2 → kindOp X.P o.op = 0 := fun h => hc2.resolve_left (fun g => g h)
  obtain ⟨b1, b2, b3, b4⟩ := key (e' := e') hI hs a1 a2 c1 c2
  have hev := ev_looks (N := X.N) (G := X.G) b1
  have g1 : StepD X ops s o' e' := h'.loc k2 (fun t ht => (b1 t ht).symm) (fun hk0 x hx t ht => by rw [← hev x hx] at ht; exact (b2 hk0 x hx t ht).symm) (fun hk2 x hx t ht => by rw [← hev x hx] at ht; exact (b3 hk2 x hx t ht).symm) (fun d hd j hj => (b4 d hd j hj).symm) (h.rd hk).1 (fun hr => (h.rd hk).2 (by rcases hc3 with h3 | h3 <;> simp_all))
  have hs' := g1.supp hk'
  obtain ⟨d1, d2, d3, d4⟩ := key (o := o') (o' := o) (e := e') (e' := e) hI hs' a3 (fun d hd hd' => a2 d hd' hd) c2 c1
  have W : ∀ {o : Oper} {e : Eff}, Supp s o.dst (kindOp X.P o.op) (isRs X.P o) e → kindOp X.P o.op = 0 → e.wr = [] ∧ e.fz = [] := fun hs h0 => by
    refine ⟨?_, hs.z h0⟩
    apply Classical.byContradiction
    intro hne
    have := hs.w hne
    omega
  exact ⟨g1, h.loc k1 d1 d2 d3 d4 (g1.rd hk').1.symm (fun hr => ((g1.rd hk').2 (by rcases hc3 with h3 | h3 <;> simp_all)).symm), app_comm hs hs' a2 (fun h2 => W hs' (c1 h2)) (fun h2 => W hs (c2 h2)) (by
    rcases hc3 with h3 | h3
    · exact .inl (hs.xs.resolve_left (by simp [h3]))
    · exact .inr (hs'.xs.resolve_left (by simp [h3])))⟩
theorem appH0 {s : St} {d : Option Nat} {e : Eff} (h : e.new = []) {t : Nat} (ht : t ∉ e.wr.map (·.1)) : (s.app d e).H t = s.H t := by
  obtain ⟨f, _, hf⟩ := app_H d e
  exact (hf s t).2 fun h' => h'.elim ht fun ⟨d', _, a, b⟩ => by rw [h] at b; simp at b; omega
theorem appF0 {s : St} {d : Option Nat} {e : Eff} (h : e.new = []) (hz : e.fz = []) (t : Nat) : (s.app d e).fr t = s.fr t := by
  rw [(app_fr d e s t).2 fun ⟨d', _, a, b⟩ => by rw [h] at b; simp at b; omega, hz]; rfl
theorem StepD.swapLS {a b : Nat} {ty ty' : TypeId} {x : Operand} (hI : Inh X s) (h : StepD X ops s o e) (h' : StepD X ops (s.app o.dst e) o' e') (hk : okOp X.P o = true) (hk' : okOp X.P o' = true) (hap : o.apart ops o' = true)
    (hl : o.op = .load ty (.tmp a)) (hs : o'.op = .store ty' (.tmp b) x) (hab : ∃ t i j t' i' j', s.env a = .optr t i j ∧ s.env b = .optr t' i' j' ∧ t ≠ t') :
    StepD X ops s o' e' ∧ StepD X ops (s.app o'.dst e') o e ∧ (s.app o.dst e).app o'.dst e' = (s.app o'.dst e').app o.dst e := by
  obtain ⟨a1, a2, a3⟩ := Oper.apart_spec hap
  obtain ⟨t, i, j, t', i', j', ea, eb, hne⟩ := hab
  have k1 : kindOp X.P o.op ≤ 2 := by rw [hl]; exact Nat.le_succ 1
  have k2 : kindOp X.P o'.op ≤ 2 := by rw [hs]; exact Nat.le_refl 2
  have v0 : e.new = [] ∧ e.wr = [] ∧ e.fz = [] := by
    cases h with
    | skip hg he => subst he; exact ⟨rfl, rfl, rfl⟩
    | act d hg hd h => rw [hl] at h; exact ⟨(vo_val h).1, (vo_val h).2.1, (vo_val h).2.2.1⟩
    | call hg h => obtain ⟨_, _, _, _, _, _, _, _, _, ho, _⟩ := h; rw [hl] at ho; cases ho
    | callW τ f args tys hg h hf hw hτ => rw [hl] at hf; cases hf
  have hb : b ∈ o'.looksAt ops := by
    simp [Oper.looksAt, hs, Op.operands]
  have eb1 : (s.app o.dst e).env b = .optr t' i' j' := by
    rw [app_env, if_neg (fun hd => a1 b hd hb), eb]
  have w0 : e'.new = [] ∧ ∀ u ∈ e'.wr.map (·.1), u = t' := by
    cases h' with
    | skip hg he => subst he; exact ⟨rfl, by simp⟩
    | act d hg hd h =>
      rw [hs] at h
      simp only [Am.act] at h
      generalize ev X.N X.G (s.app o.dst e).env x = vx at h
      simp only [ev, eb1] at h
      cases hN : decide (b < X.N) with
      | false => rw [hN] at h; simp only [cond_false] at h; unfold st at h; split at h <;> simp_all
      | true =>
        rw [hN] at h; simp only [cond_true] at h
        unfold st at h
        split at h
        · rename_i q1 q2
          cases q2
          split at h
          · split at h
            · unfold need at h
              generalize (!(s.app o.dst e).fr t' && !(tags vx).contains t' && tagOk (tags vx)) = cc at h
              cases cc with
              | true => obtain rfl := Option.some.inj h; exact ⟨rfl, by simp⟩
              | false => cases h
            · cases h
          · cases h
        · cases h
    | call hg h => obtain ⟨_, _, _, _, _, _, _, _, _, ho, _⟩ := h; rw [hs] at ho; cases ho
    | callW τ f args tys hg h hf hw hτ => rw [hs] at hf; cases hf
  have e1 : ∀ u, (s.app o.dst e).H u = s.H u := fun u => appH0 v0.1 (by rw [v0.2.1]; simp)
  have g1 : StepD X ops s o' e' := h'.loc k2 (fun u hu => by rw [app_env, if_neg (fun hd => a1 u hd hu)]) (fun _ x _ u _ => e1 u) (fun _ x _ u _ => appF0 v0.1 v0.2.2 u) (fun d _ n _ => by rw [e1]) (h.rd hk).1 (fun hr => by simp [isRs, hs] at hr)
  have hs' := g1.supp hk'
  have hs1 := h.supp hk
  have ha : kindOp X.P o.op = 1 := by rw [hl]; rfl
  refine ⟨g1, h.loc k1 (fun u hu => ?_) (fun _ x hx u hu => ?_) (fun h2 => by omega) (fun d hd n hn => ?_) (g1.rd hk').1.symm (fun hr => by simp [isRs, hl] at hr), app_comm hs1 hs' a2 (fun h2 => by omega) (fun _ => ⟨v0.2.1, v0.2.2⟩) (.inl (hs1.xs.resolve_left (by simp [isRs, hl])))⟩
  · rw [app_env, if_neg (fun hd => a3 u hd hu)]
  · rw [hl] at hx
    have : x = .tmp a := by simpa [Op.operands] using hx
    subst this
    have : u = t := by
      simp only [ev, ea] at hu
      cases hN : decide (a < X.N) with
      | false => rw [hN] at hu; cases hu
      | true => rw [hN] at hu; cases hu; rfl
    subst this
    exact (appH0 w0.1 (fun hm => hne (w0.2 _ hm))).symm
  · obtain ⟨f, f0, hf⟩ := app_H o'.dst e'
    by_cases hw : tg d n ∈ e'.wr.map (·.1)
    · obtain ⟨p, hp, hpe⟩ := List.mem_map.1 hw
      have h1 := hs'.wt p hp
      rw [hpe] at h1
      have h2 := f0 _ (.inl hw)
      rw [← (hf s _).1 (.inl hw)] at h2
      cases q1 : s.H (tg d n) with
      | none => exact absurd q1 h1
      | some r =>
        cases q2 : (s.app o'.dst e').H (tg d n) with
        | none => exact absurd q2 h2
        | some r' => rfl
    · rw [appH0 w0.1 hw]
end
def dirE (ops : Array Oper) (q p : Nat) : Bool := match ops[q]? with | some o => o.after.any (fun e => Region.binds .any e && e.on == p) | none => false
def nextE (ops : Array Oper) (q p : Nat) : Nat := match ops[q]? with | some o => o.after.foldl (fun a e => if Region.binds .any e && decide (a < e.on) && decide (p < e.on) then e.on else a) 0 | none => 0
def pathE (ops : Array Oper) : Nat → Nat → Nat → Bool
  | 0, _, _ => false
  | f + 1, q, p => dirE ops q p || (decide (p < nextE ops q p) && dirE ops q (nextE ops q p) && pathE ops f (nextE ops q p) p)
def ordE (ops : Array Oper) (q p : Nat) : Bool := dirE ops q p || ((List.range ops.size).any fun m => dirE ops q m && dirE ops m p) || pathE ops ops.size q p
def drawOKn (P : Program) (ops : Array Oper) (ex : Oper → Oper → Bool) (n : Nat) : Bool :=
  (List.range n).all fun q => match ops[q]? with
    | none => false
    | some oq => okOp P oq && oq.after.all (fun e => !Region.binds .any e || decide (e.on < q)) && (List.range q).all fun p => match ops[p]? with
      | none => false
      | some op => !confO P ops op oq || ordE ops q p || ex op oq
def drawOKx (P : Program) (ops : Array Oper) (ex : Oper → Oper → Bool) : Bool := drawOKn P ops ex ops.size
def drawOK (P : Program) (ops : Array Oper) : Bool := drawOKx P ops fun _ _ => false
inductive RunE (X : Cx) (ops : Array Oper) : List Nat → St → St → Prop
  | nil (s) : RunE X ops [] s s
  | cons (i l s s') (o : Oper) (e : Eff) (ho : ops[i]? = some o) (h : StepD X ops s o e) (hr : RunE X ops l (s.app o.dst e) s') : RunE X ops (i :: l) s s'
section
variable {X : Cx} {ops : Array Oper}
theorem drawOK_spec {ex : Oper → Oper → Bool} {n : Nat} (h : drawOKn X.P ops ex n = true) {q : Nat} {oq : Oper} (hqn : q < n) (hq : ops[q]? = some oq) : okOp X.P oq = true ∧ (∀ e ∈ oq.after, Region.binds .any e = true → e.on < q) ∧
    ∀ (p : Nat) (op : Oper), p < q → ops[p]? = some op → confO X.P ops op oq = true → ordE ops q p = true ∨ ex op oq = true := by
  unfold drawOKn at h
  have h1 := List.all_eq_true.1 h q (List.mem_range.2 hqn)
  rw [hq] at h1
  simp only [Bool.and_eq_true] at h1
  obtain ⟨⟨h1, h2⟩, h3⟩ := h1
  refine ⟨h1, fun e he hb => ?_, fun p op hp hop hc => ?_⟩
  · have := Array.all_eq_true_iff_forall_mem.1 h2 e he
    simpa [hb] using this
  · have := List.all_eq_true.1 h3 p (List.mem_range.2 hp)
    rw [hop] at this
    simpa [hc] using this
structure SwapOK (X : Cx) (ops : Array Oper) (ex : Oper → Oper → Bool) (I : St → Prop) : Prop where
  step : ∀ {s : St} {i : Nat} {o : Oper} {e : Eff}, ops[i]? = some o → StepD X ops s o e → I s → I (s.app o.dst e)
  swap : ∀ {s : St} {o o' : Oper} {e e' : Eff}, I s → Inh X s → okOp X.P o = true → okOp X.P o' = true → StepD X ops s o e → StepD X ops (s.app o.dst e) o' e' → ex o o' = true →
    StepD X ops s o' e' ∧ StepD X ops (s.app o'.dst e') o e ∧ (s.app o.dst e).app o'.dst e' = (s.app o'.dst e').app o.dst e
theorem RunE.of : ∀ {l : List Nat} {s s' : St}, Run X ops l s s' → (∀ i ∈ l, ∀ (o : Oper), ops[i]? = some o → okOp X.P o = true) → RunE X ops l s s' := by
  intro l s s' h
  induction h with
  | nil s => exact fun _ => .nil s
  | cons i l s s1 s2 o ho h hr ih =>
    intro hk
    obtain ⟨e, h1, rfl⟩ := StepD.of h (hk i (by simp) o ho)
    exact .cons i l s s2 o e ho h1 (ih fun j hj => hk j (by simp [hj]))
theorem RunE.front {ex : Oper → Oper → Bool} {I : St → Prop} (hS : SwapOK X ops ex I) {n : Nat} (hk : ∀ (i : Nat) (o : Oper), i < n → ops[i]? = some o → okOp X.P o = true) {i : Nat} (hin : i < n) {l2 : List Nat} {s' : St} : ∀ (l1 : List Nat) (s : St), I s → Inh X s → RunE X ops (l1 ++ i :: l2) s s' → (∀ p ∈ l1, p < n) → (∀ p ∈ l1, ∀ (op oi : Oper), ops[p]? = some op → ops[i]? = some oi → confO X.P ops op oi = false ∨ ex op oi = true) →
    ∃ oi e, ops[i]? = some oi ∧ StepD X ops s oi e ∧ RunE X ops (l1 ++ l2) (s.app oi.dst e) s'
  | [], s, hi, hI, h, _, _ => by
    cases h with
    | cons _ _ _ _ o e ho h hr => exact ⟨o, e, ho, h, hr⟩
  | p :: l1, s, hi, hI, h, hln, hc => by
    cases h with
    | cons _ _ _ _ op ep hop h hr =>
      obtain ⟨oi, e, hoi, h1, h2⟩ := RunE.front hS hk hin l1 _ (hS.step hop h hi) (hI.step h) hr (fun q hq => hln q (by simp [hq])) (fun q hq => hc q (by simp [hq]))
      obtain ⟨g1, g2, g3⟩ := (hc p (by simp) op oi hop hoi).elim (fun hc => h.swap hI h1 (hk p op (hln p (by simp)) hop) (hk i oi hin hoi) hc) (fun hc => hS.swap hi hI (hk p op (hln p (by simp)) hop) (hk i oi hin hoi) h h1 hc)
      rw [g3] at h2
      exact ⟨oi, e, hoi, g1, .cons p _ _ _ op ep hop g2 h2⟩
theorem dirE_spec {q p : Nat} (h : dirE ops q p = true) : ∃ o, ops[q]? = some o ∧ ∃ e ∈ o.after, Region.binds .any e = true ∧ e.on = p := by
  unfold dirE at h
  cases ho : ops[q]? with
  | none => rw [ho] at h; cases h
  | some o =>
    rw [ho] at h
    obtain ⟨e, he, hb⟩ := Array.any_eq_true'.1 h
    simp only [Bool.and_eq_true, beq_iff_eq] at hb
    exact ⟨o, rfl, e, he, hb.1, hb.2⟩
theorem draw_any {Q : Exit → Act → World → Prop} {s' : St} {ex : Oper → Oper → Bool} {I : St → Prop} {n : Nat} (hS : SwapOK X ops ex I) (hD : drawOKn X.P ops ex n = true) (hn : n = ops.size ∨ (n + 1 = ops.size ∧ ∀ p, p < n → dirE ops n p = true)) (hafter : ∀ o : Oper, ops[n]? = some o → ∀ e ∈ o.after, Region.binds .any e = true → e.on < n)
    (hK : n = ops.size → ∀ a' w' β' fz', Rel X s' fz' β' a' w' → Q .normal a' w') (hK' : n + 1 = ops.size → ∀ a' w' β' fz', Rel X s' fz' β' a' w' → wpOp X.P ops Q n (Q .normal) a' w') :
    ∀ (fuel : Nat) (l : List Nat) (listed : Array Bool) (s : St) (fz : Nat → Prop) (β : Nat → Option Own) (a : Act) (w : World), l.length + (ops.size - n) ≤ fuel → listed.size = ops.size → (∀ i, listed.getD i true = false ↔ i ∈ l ∨ (n ≤ i ∧ i < ops.size)) → l.Pairwise (· < ·) → (∀ i ∈ l, i < n) →
      (∀ (i : Nat) (o : Oper), ops[i]? = some o → i < n → i ∉ l → ∀ e ∈ o.after, Region.binds .any e = true → e.on ∉ l) → RunE X ops l s s' → I s → Rel X s fz β a w → wpAny X.P .any ops Q fuel listed a w := by
  have hk : ∀ (i : Nat) (o : Oper), i < n → ops[i]? = some o → okOp X.P o = true := fun i o hi ho => (drawOK_spec hD hi ho).1
  have hnle : n ≤ ops.size := by omega
  intro fuel
  have hin : ∀ {l : List Nat} {listed : Array Bool}, (∀ i, listed.getD i true = false ↔ i ∈ l ∨ (n ≤ i ∧ i < ops.size)) → ∀ j, listed.getD j false = true → j ∉ l := by
    intro l listed hl j hj hm
    have := (hl j).2 (.inl hm)
    rcases Nat.lt_or_ge j listed.size with h | h
    · simp [h] at hj this; rw [hj] at this; cases this
    · simp [Array.getElem?_eq_none h] at hj
  have hrdy : ∀ {p : Nat} {l' : List Nat} {listed : Array Bool}, listed.size = ops.size → (∀ i, listed.getD i true = false ↔ i ∈ p :: l' ∨ (n ≤ i ∧ i < ops.size)) → (p :: l').Pairwise (· < ·) → p < n → p ∈ Region.ready .any ops listed := by
    intro p l' listed hsz hl hp hpn
    have hps : p < ops.size := by omega
    refine mem_ready.2 ⟨(hl p).2 (by simp), ops[p], by simp [hps], fun e he hb => ?_⟩
    have hlt := (drawOK_spec hD hpn (by simp [hps] : ops[p]? = some ops[p])).2.1 e he hb
    have hno : ¬ (e.on ∈ p :: l' ∨ (n ≤ e.on ∧ e.on < ops.size)) := fun hm => by
      rcases hm with hm | hm
      · rcases List.mem_cons.1 hm with hm | hm
        · omega
        · have := (List.pairwise_cons.1 hp).1 _ hm
          omega
      · omega
    have hne := fun h => hno ((hl e.on).1 h)
    have hlt' : e.on < listed.size := by omega
    simp [hlt'] at hne ⊢
    exact hne
  -- all of the first n are through
  have fin : ∀ (fuel : Nat) (listed : Array Bool) (s : St) (fz : Nat → Prop) (β : Nat → Option Own) (a : Act) (w : World), ops.size - n ≤ fuel → listed.size = ops.size → (∀ i, listed.getD i true = false ↔ i ∈ ([] : List Nat) ∨ (n ≤ i ∧ i < ops.size)) → RunE X ops [] s s' → Rel X s fz β a w → wpAny X.P .any ops Q fuel listed a w := by
    intro fuel listed s fz β a w hf hsz hl hr hR
    cases hr
    have done : ∀ (fuel : Nat) (listed : Array Bool) (a : Act) (w : World), (∀ i, listed.getD i true = true) → Q .normal a w → wpAny X.P .any ops Q fuel listed a w := by
      intro fuel listed a w hl hQ
      have h0 : Region.ready .any ops listed = [] := List.eq_nil_iff_forall_not_mem.2 fun j hj => by
        have := (mem_ready.1 hj).1
        rw [hl j] at this
        cases this
      cases fuel with
      | zero => exact ⟨h0, hQ⟩
      | succ fuel => exact ⟨fun _ => hQ, fun i hi => by rw [h0] at hi; cases hi⟩
    rcases hn with hn | ⟨hn, hlast⟩
    · refine done _ _ _ _ (fun i => ?_) (hK hn _ _ _ _ hR)
      cases hq : listed.getD i true with
      | true => rfl
      | false =>
        rcases (hl i).1 hq with h | h
        · cases h
        · omega
    · cases fuel with
      | zero => omega
      | succ fuel =>
        have hns : n < ops.size := by omega
        have hr : ∀ i, i ∈ Region.ready .any ops listed → i = n := fun i hi => by
          rcases (hl i).1 (mem_ready.1 hi).1 with h | h
          · cases h
          · omega
        have hmem : n ∈ Region.ready .any ops listed ∨ ¬ n ∈ Region.ready .any ops listed := Classical.em _
        refine ⟨fun h0 => ?_, fun i hi => ?_⟩
        · exfalso
          have : n ∈ Region.ready .any ops listed := mem_ready.2 ⟨(hl n).2 (.inr ⟨Nat.le_refl _, hns⟩), ops[n], by simp [hns], fun e he hb => ?_⟩
          · rw [h0] at this; cases this
          · have hon : e.on < n := hafter _ (by simp [hns]) e he hb
            have hlt : e.on < listed.size := by omega
            have : ¬ (listed.getD e.on true = false) := fun h => by
              rcases (hl _).1 h with h | h
              · cases h
              · omega
            simp [hlt] at this ⊢
            exact this
        · obtain rfl := hr i hi
          refine wpOp_mono (fun a' w' hq => done _ _ _ _ (fun j => ?_) hq) (hK' hn _ _ _ _ hR)
          by_cases hji : i = j
          · subst hji
            have : i < listed.size := by omega
            simp [this]
          · rw [getD_set_ne true hji]
            cases hq : listed.getD j true with
            | true => rfl
            | false =>
              rcases (hl j).1 hq with h | h
              · cases h
              · omega
  induction fuel with
  | zero =>
    intro l listed s fz β a w hlen hsz hl hp hln hdn hr hi0 hR
    have hl0 : l = [] := List.eq_nil_of_length_eq_zero (by omega)
    subst hl0
    exact fin 0 listed s fz β a w (by simpa using hlen) hsz hl hr hR
  | succ fuel ih =>
    intro l listed s fz β a w hlen hsz hl hp hln hdn hr hi0 hR
    rcases l with _ | ⟨p0, l0⟩
    · exact fin (fuel + 1) listed s fz β a w (by simpa using hlen) hsz hl hr hR
    refine ⟨fun h0 => ?_, fun i hi => ?_⟩
    · have := hrdy hsz hl hp (hln p0 (by simp))
      rw [h0] at this
      cases this
    · generalize hle : p0 :: l0 = l at *
      obtain ⟨hun, oi, hoi, hall⟩ := mem_ready.1 hi
      have hall' : ∀ e ∈ oi.after, Region.binds .any e = true → e.on ∉ l := fun e he hb => hin hl _ (hall e he hb)
      have hil : i ∈ l := by
        rcases (hl i).1 hun with h | h
        · exact h
        · exfalso
          rcases hn with hn | ⟨hn, hlast⟩
          · omega
          · have hin' : i = n := by omega
            subst hin'
            have hp0 : p0 ∈ l := by rw [← hle]; simp
            obtain ⟨o, hq, e, he, hb, hon⟩ := dirE_spec (hlast p0 (hln p0 hp0))
            rw [hoi] at hq
            obtain rfl := Option.some.inj hq
            exact hall' e he hb (hon ▸ hp0)
      obtain ⟨l1, l2, rfl⟩ := List.append_of_mem hil
      have hp2 := List.pairwise_append.1 hp
      have hin0 : i < n := hln i (by simp)
      obtain ⟨oi', e, hoi', h1, h2⟩ := RunE.front hS hk hin0 l1 s hi0 ⟨_, _, _, _, hR⟩ hr (fun p hpm => hln p (by simp [hpm])) (fun p hpm op oi'' hop hoi'' => by
        rw [hoi] at hoi''
        obtain rfl := Option.some.inj hoi''
        cases hc : confO X.P ops op oi with
        | false => exact .inl rfl
        | true =>
          refine .inr ?_
          have hlt : p < i := hp2.2.2 p hpm i (by simp)
          have ho := (drawOK_spec hD hin0 hoi).2.2 p op hlt hop hc
          have hpl : p ∈ l1 ++ i :: l2 := by simp [hpm]
          rcases ho with ho | ho
          case inr => exact ho
          exfalso
          simp only [ordE, Bool.or_eq_true] at ho
          rcases ho with (ho | ho) | ho
          · obtain ⟨o, hq, e, he, hb, rfl⟩ := dirE_spec ho
            rw [hoi] at hq
            obtain rfl := Option.some.inj hq
            exact hall' e he hb hpl
          · obtain ⟨m, _, hm⟩ := List.any_eq_true.1 ho
            simp only [Bool.and_eq_true] at hm
            obtain ⟨o, hq, e, he, hb, rfl⟩ := dirE_spec hm.1
            rw [hoi] at hq
            obtain rfl := Option.some.inj hq
            obtain ⟨om, hqm, e', he', hb', rfl⟩ := dirE_spec hm.2
            have hmi := (drawOK_spec hD hin0 hoi).2.1 e he hb
            exact hdn _ om hqm (by omega) (hall' e he hb) e' he' hb' hpl
          · have road : ∀ (f m : Nat), m < n → (∀ om, ops[m]? = some om → ∀ e ∈ om.after, Region.binds .any e = true → e.on ∉ l1 ++ i :: l2) → pathE ops f m p = true → False := by
              intro f
              induction f with
              | zero => intro m _ _ h; cases h
              | succ f ihf =>
                intro m hmn hm h
                simp only [pathE, Bool.or_eq_true, Bool.and_eq_true] at h
                rcases h with h | ⟨⟨_, h1⟩, h2⟩
                · obtain ⟨o, hq, e, he, hb, rfl⟩ := dirE_spec h
                  exact hm o hq e he hb hpl
                · obtain ⟨o, hq, e, he, hb, hon⟩ := dirE_spec h1
                  have hlt := (drawOK_spec hD hmn hq).2.1 e he hb
                  have hne := hm o hq e he hb
                  rw [hon] at hlt hne
                  exact ihf _ (by omega) (fun om hqm e' he' hb' => hdn _ om hqm (by omega) hne e' he' hb') h2
            exact road _ i hin0 (fun om hqm e he hb => by rw [hoi] at hqm; obtain rfl := Option.some.inj hqm; exact hall' e he hb) ho)
      rw [hoi] at hoi'
      obtain rfl := Option.some.inj hoi'
      have hps : i < ops.size := (Array.getElem?_eq_some_iff.1 hoi).1
      have hni : i ∉ l1 ++ l2 := fun hm => by
        rcases List.mem_append.1 hm with hm | hm
        · have := hp2.2.2 i hm i (by simp); omega
        · have := (List.pairwise_cons.1 hp2.2.1).1 i hm; omega
      have sub : ∀ t, t ∈ l1 ++ l2 → t ∈ l1 ++ i :: l2 := fun t ht => by
        simp only [List.mem_append, List.mem_cons] at ht ⊢
        rcases ht with h | h
        · exact .inl h
        · exact .inr (.inr h)
      refine step_ok hR hoi h1.to fun a' w' β' fz' hR' => ih (l1 ++ l2) _ _ _ _ _ _ ?_ ?_ ?_ ?_ ?_ ?_ h2 (hS.step hoi h1 hi0) hR'
      · simp at hlen ⊢; omega
      · simpa using hsz
      · intro j
        by_cases hji : i = j
        · subst hji
          have hlt : i < listed.size := by omega
          constructor
          · intro h; simp [hlt] at h
          · intro h
            rcases h with h | h
            · exact absurd h hni
            · omega
        · rw [getD_set_ne true hji, hl]
          simp only [List.mem_append, List.mem_cons]
          constructor
          · rintro ((h | h | h) | h)
            · exact .inl (.inl h)
            · exact absurd h.symm hji
            · exact .inl (.inr h)
            · exact .inr h
          · rintro ((h | h) | h)
            · exact .inl (.inl h)
            · exact .inl (.inr (.inr h))
            · exact .inr h
      · exact hp.sublist (List.append_sublist_append_left l1 |>.2 (List.sublist_cons_self i l2))
      · exact fun j hj => hln j (sub j hj)
      · intro k o hko hkn' hkn e' he' hb'
        by_cases hki : k = i
        · subst hki
          rw [hoi] at hko
          obtain rfl := Option.some.inj hko
          exact fun hm => hall' e' he' hb' (sub _ hm)
        · refine fun hm => hdn k o hko hkn' ?_ e' he' hb' (sub _ hm)
          intro h
          simp only [List.mem_append, List.mem_cons] at h hkn
          rcases h with h | h | h
          · exact hkn (.inl h)
          · exact hki h
          · exact hkn (.inr h)
end
theorem aw_draw {E : Fx} {k : List Item} {s s' : St} {res : AV} {outs : List Row} {xq : Rs → Prop} {id : Nat} {ops : Array Oper} {ex : Oper → Oper → Bool} {I : St → Prop} (hS : SwapOK E.X ops ex I) (hi0 : I s) (hm : E.X.P.follows .mixedOrders = true) (hD : drawOKx E.X.P ops ex = true) (hr : Run E.X ops (List.range ops.size) s s') (h : AW E k s' res outs xq) :
    AW E (.code (.region id ops true) :: k) s res outs xq := fun fz β a w hR b cs hb hk => by
  have hwp := draw_any (n := ops.size) (Q := fun e a' w' => e = .normal ∧ ∃ fz' β', Rel E.X s' fz' β' a' w') hS hD (.inl rfl) (fun o ho => by simp at ho) (fun _ a' w' β' fz' h' => ⟨rfl, fz', β', h'⟩) (fun h => by omega) ops.size (List.range ops.size) (Array.replicate ops.size false) s fz β a _ (by simp) (by simp)
    (fun i => by
      by_cases hi : i < ops.size <;> simp [hi]) (List.pairwise_lt_range) (fun i hi => List.mem_range.1 hi) (fun i o ho hi hn => absurd (List.mem_range.2 hi) hn) (RunE.of hr fun i hi o ho => (drawOK_spec hD (List.mem_range.1 hi) ho).1) hi0 hR.drew
  obtain ⟨e, a', w', ⟨rfl, fz', β', hR'⟩, harr⟩ := wp_region_any (id := id) hm hwp b k cs
  obtain ⟨v, w'', fr, h1, h2⟩ := h _ _ _ _ hR' b cs hb hk
  exact ⟨v, w'', fr, Steps.trans harr h1, h2⟩
theorem swap_none (X : Cx) (ops : Array Oper) : SwapOK X ops (fun _ _ => false) (fun _ => True) := ⟨fun _ _ _ => trivial, fun _ _ _ _ _ _ h => nomatch h⟩
theorem sim_draw {R : Type} {M : Pm} {J : R → Out} {G : Option R} {k : List Item} {s : St} {ops : Array Oper} {id : Nat} (hm : M.P.follows .mixedOrders = true) (hD : drawOK M.P ops = true) (h : SimO M J ops G (List.range ops.size) k s) : Sim M J G (.code (.region id ops true) :: k) s := fun E hE r hr => by
  obtain ⟨s', h1, h2⟩ := h E hE r hr
  exact aw_draw (swap_none _ _) trivial (by rw [hE.p]; exact hm) (by rw [hE.p]; exact hD) h1 h2
def exLS (ops : Array Oper) (a b : Nat) (o o' : Oper) : Bool := o.apart ops o' && match o.op, o'.op with
  | .load _ (.tmp x), .store _ (.tmp y) _ => (x == a && y == b) || (x == b && y == a)
  | _, _ => false
def keepsAB (ops : Array Oper) (a b : Nat) : Bool := ops.all fun o => o.dst != some a && o.dst != some b
end Go.Proofs.YtpchdjdochkjpaaGreatDoor.Am
set_option linter.unusedVariables false
set_option linter.unusedSimpArgs false
namespace Go.Proofs.YtpchdjdochkjpaaGreatDoor.Am
open Go Go.RowKit
section
variable {R : Type} {M : Pm} {J : R → Out} {G : Option R} {k : List Item} {s : St}
def SimR (M : Pm) (J : R → Out) (ops : Array Oper) (G : Option R) (idx : List Nat) (k : List Item) (s : St) : Prop := ∀ E : Fx, EOk M E → ∀ r, G = some r → ∀ fz β a w, Rel E.X s fz β a w →
  wpOps E.X.P ops (fun e a' w' => e = .normal ∧ ∃ s' fz' β', Rel E.X s' fz' β' a' w' ∧ AW E k s' (J r).1 (J r).2 (J r).3) idx a w
variable {T : Type} {G1 G2 : Option R} {s' : St} {ops : Array Oper} {idx : List Nat}
theorem simR_none : SimR M J ops (none : Option R) idx k s := fun E hE r h => by cases h
theorem simR_ite {c : Prop} [Decidable c] (h1 : c → SimR M J ops G1 idx k s) (h2 : ¬ c → SimR M J ops G2 idx k s) : SimR M J ops (if c then G1 else G2) idx k s := by
  by_cases h : c
  · rw [if_pos h]; exact h1 h
  · rw [if_neg h]; exact h2 h
theorem simR_nil (h : Sim M J G k s) : SimR M J ops G [] k s := fun E hE r hr fz β a w hR => ⟨rfl, s, fz, β, hR, h E hE r hr⟩
theorem simR_cons {i : Nat} {o : Oper} {s1 : St} (ho : ops[i]? = some o) (hs : ∀ E, EOk M E → StepA E.X ops s o s1) (h : SimR M J ops G idx k s1) : SimR M J ops G (i :: idx) k s := fun E hE r hr fz β a w hR => by
  rw [wpOps_cons]
  exact step_ok hR ho (hs E hE) (fun a' w' β' fz' hR' => h E hE r hr _ _ _ _ hR')
theorem SimR.le (h : SimR M J ops G idx k s') (hl : LeM M s s') : SimR M J ops G idx k s := fun E hE r hr fz β a w hR => by
  obtain ⟨fz', β', hR'⟩ := hl E hE _ _ _ _ hR
  exact h E hE r hr _ _ _ _ hR'
theorem sim_regionR {id : Nat} (h : SimR M J ops G (List.range ops.size) k s) : Sim M J G (.code (.region id ops false) :: k) s := fun E hE r hr fz β a w hR b cs hb hk => by
  obtain ⟨e, a', w', ⟨rfl, s', fz', β', hR', hA⟩, harr⟩ := wp_region (id := id) (h E hE r hr fz β a w hR) b k cs
  obtain ⟨v, w'', fr, h1, h2⟩ := hA _ _ _ _ hR' b cs hb hk
  exact ⟨v, w'', fr, Steps.trans harr h1, h2⟩
theorem simR_skip {i : Nat} {o : Oper} (ho : ops[i]? = some o) (hg : gd M.N ops s.env o = some false) (h : SimR M J ops G idx k { s with env := putE s.env o.dst .undef }) : SimR M J ops G (i :: idx) k s :=
  simR_cons ho (fun E hE => .step (.skip (by rw [hE.n]; exact hg))) h
theorem simR_act {i d : Nat} {o : Oper} {e : Eff} (ho : ops[i]? = some o) (hg : gd M.N ops s.env o = some true) (hd : o.dst = some d) (ha : act M.P M.N M.G s d o.op = some e) (h : SimR M J ops G idx k (s.app (some d) e)) : SimR M J ops G (i :: idx) k s :=
  simR_cons ho (fun E hE => by rw [← hd]; exact .step (.act d e (by rw [hE.n]; exact hg) (.inl hd) (by rw [hE.p, hE.n, hE.g]; exact ha))) h
theorem simR_act0 {i : Nat} {o : Oper} {e : Eff} (ho : ops[i]? = some o) (hg : gd M.N ops s.env o = some true) (hd : o.dst = none) (ha : act M.P M.N M.G s 0 o.op = some e) (hn : e.new = []) (h : SimR M J ops G idx k (s.app none e)) : SimR M J ops G (i :: idx) k s :=
  simR_cons ho (fun E hE => by rw [← hd]; exact .step (.act 0 e (by rw [hE.n]; exact hg) (.inr ⟨hd, hn⟩) (by rw [hE.p, hE.n, hE.g]; exact ha))) h
theorem simR_app {i d : Nat} {o : Oper} {x y : Operand} {t : TypeId} (ho : ops[i]? = some o) (hg : gd M.N ops s.env o = some true) (hd : o.dst = some d) (hop : o.op = .call { callee := .builtin .append, args := #[x, y], argTypes := #[t, t] })
    (ha : apA M.P s d t (ev M.N M.G s.env x) (ev M.N M.G s.env y) = some s') (h : SimR M J ops G idx k s') : SimR M J ops G (i :: idx) k s :=
  simR_cons ho (fun E hE => .app d x y t (by rw [hE.n]; exact hg) hd hop (by rw [hE.p, hE.n, hE.g]; exact ha)) h
theorem simR_call {i d : Nat} {o : Oper} {f : Nat} {args : Array Operand} {tys : Array TypeId} {cargs cargs' : List AV} {res : T → AV} {outs : T → List Row} {C : Option T} {F : T → Option R} (cl : Bool)
    (hh : ∀ t, C = some t → Holds M.P M.G f [] cargs' (res t) (outs t))
    (ho : ops[i]? = some o) (hop : o.op = .call { callee := .value (.func f), args, argTypes := tys }) (hd : o.dst = some d) (hg : gd M.N ops s.env o = some true)
    (hc : convL [] s.H (args.toList.map (ev M.N M.G s.env)) = some cargs) (hle : leAL cargs cargs')
    (hcl : cl = true → ∀ t, closedR (res t) = true ∧ ∀ r ∈ outs t, ClosedRow r)
    (htag : cl = true ∨ tagOk (lentT [] (args.toList.map (ev M.N M.G s.env))) = true)
    (hn : ∀ t, (outs t).length ≤ 16 ∧ ∀ j, j < (outs t).length → s.H (tg d 0 + j) = none)
    (h : ∀ t, SimR M J ops (F t) idx k (s.app (some d) { val := renV [] d (res t), new := outs t, fz := if cl = true then [] else lentT [] (args.toList.map (ev M.N M.G s.env)) })) : SimR M J ops (C.bind F) (i :: idx) k s := fun E hE r hr => by
  obtain ⟨t, ht, hr⟩ := Option.bind_eq_some_iff.1 hr
  refine simR_cons (G := F t) ho (fun E hE => ?_) (h t) E hE r hr
  have := Step.call (X := E.X) (ops := ops) (s := s) (o := o) _ (by rw [hE.n]; exact hg) (Ca.mk (xs := none) f args tys [] (outs t) cargs (res t) cl [] hop rfl List.nodup_nil (fun j r h => by simp at h) (by rw [hE.n, hE.g]; exact hc) (aggFree_nil _) (by rw [hE.p, hE.g]; exact ((hh t ht).args hle).toG) rfl (fun h => hcl h t) (by rw [hE.n, hE.g]; exact htag)
    (fun d' hd' j hj => by rw [hd] at hd'; obtain rfl := Option.some.inj hd'; exact (hn t).2 j (by simpa using hj)) (by simpa using (hn t).1) rfl)
  rw [hd, hE.n, hE.g] at this
  exact .step this
theorem simR_callW {i d : Nat} {o : Oper} {f : Nat} {args : Array Operand} {tys : Array TypeId} {cargs cargs' : List AV} {res : T → AV} {outs : T → List Row} {C : Option T} {F : T → Option R} (τ : List Nat) (ins : List Row) (cl : Bool)
    (hh : ∀ t, C = some t → Holds M.P M.G f ins cargs' (res t) (outs t))
    (ho : ops[i]? = some o) (hop : o.op = .call { callee := .value (.func f), args, argTypes := tys }) (hd : o.dst = some d) (hw : isW M.P f = true) (hτa : ∀ t ∈ τ, ∃ x ∈ args.toList, Has t (ev M.N M.G s.env x)) (hg : gd M.N ops s.env o = some true) (hτ : chkR s τ ins) (hτn : τ.Nodup)
    (hc : convL τ s.H (args.toList.map (ev M.N M.G s.env)) = some cargs) (hle : leAL cargs cargs') (hag : aggFree τ (args.toList.map (ev M.N M.G s.env)) = true)
    (hcl : cl = true → ∀ t, closedR (res t) = true ∧ ∀ r ∈ outs t, ClosedRow r)
    (htag : cl = true ∨ tagOk (lentT τ (args.toList.map (ev M.N M.G s.env))) = true)
    (hn : ∀ t, (outs t).length - ins.length ≤ 16 ∧ ∀ j, j < (outs t).length - ins.length → s.H (tg d 0 + j) = none)
    (h : ∀ t, SimR M J ops (F t) idx k (s.app (some d) { val := renV τ d (res t), new := (outs t).drop ins.length, wr := τ.zip (outs t), fz := if cl = true then [] else lentT τ (args.toList.map (ev M.N M.G s.env)) })) : SimR M J ops (C.bind F) (i :: idx) k s := fun E hE r hr => by
  obtain ⟨t, ht, hr⟩ := Option.bind_eq_some_iff.1 hr
  obtain ⟨g1, g2⟩ := chkR_get hτ
  refine simR_cons (G := F t) ho (fun E hE => ?_) (h t) E hE r hr
  refine .callW _ τ f args tys (by rw [hE.n]; exact hg) (.mk (xs := none) f args tys ins (outs t) cargs (res t) cl [] hop g1 hτn g2 (by rw [hE.n, hE.g]; exact hc) (by rw [hE.n, hE.g]; exact hag) (by rw [hE.p, hE.g]; exact ((hh t ht).args hle).toG) rfl (fun h => hcl h t) (by rw [hE.n, hE.g]; exact htag)
    (fun d' hd' j hj => by rw [hd] at hd'; obtain rfl := Option.some.inj hd'; exact (hn t).2 j hj) (hn t).1 rfl) hop (by rw [hE.p]; exact hw) ?_ (by rw [hE.n, hE.g]; exact hτa)
  rw [hd, hE.n, hE.g]
  rfl
theorem wp_fn {P : Program} {o : Oper} {q f : Nat} {args : Array Operand} {tys : Array TypeId} {a : Act} {w : World} {K : Act → World → Prop} {Q : Exit → Act → World → Prop}
    (hop : o.op = .call { callee := .value (.tmp q), args, argTypes := tys }) (hv : a.eval (.tmp q) = .func (.func f) #[] #[])
    (h : ({ o with op := .call { callee := .value (.func f), args, argTypes := tys } } : Oper).wp P a w K Q) : o.wp P a w K Q := by
  have e : execOp a.eval o = execOp a.eval ({ o with op := .call { callee := .value (.func f), args, argTypes := tys } } : Oper) := by
    simp only [execOp, hop, resolve, hv]
    rfl
  unfold Oper.wp at h ⊢
  rw [e]
  exact h
theorem simR_callF {i d q : Nat} {o : Oper} {f : Nat} {args : Array Operand} {tys : Array TypeId} {cargs cargs' : List AV} {res : T → AV} {outs : T → List Row} {C : Option T} {F : T → Option R} (cl : Bool)
    (hh : ∀ t, C = some t → Holds M.P M.G f [] cargs' (res t) (outs t))
    (ho : ops[i]? = some o) (hop : o.op = .call { callee := .value (.tmp q), args, argTypes := tys }) (hq : q < M.N) (hf : s.env q = .fn f) (hd : o.dst = some d) (hg : gd M.N ops s.env o = some true)
    (hc : convL [] s.H (args.toList.map (ev M.N M.G s.env)) = some cargs) (hle : leAL cargs cargs')
    (hcl : cl = true → ∀ t, closedR (res t) = true ∧ ∀ r ∈ outs t, ClosedRow r)
    (htag : cl = true ∨ tagOk (lentT [] (args.toList.map (ev M.N M.G s.env))) = true)
    (hn : ∀ t, (outs t).length ≤ 16 ∧ ∀ j, j < (outs t).length → s.H (tg d 0 + j) = none)
    (h : ∀ t, SimR M J ops (F t) idx k (s.app (some d) { val := renV [] d (res t), new := outs t, fz := if cl = true then [] else lentT [] (args.toList.map (ev M.N M.G s.env)) })) : SimR M J ops (C.bind F) (i :: idx) k s := fun E hE r hr fz β a w hR => by
  obtain ⟨t, ht, hr⟩ := Option.bind_eq_some_iff.1 hr
  rw [wpOps_cons]
  unfold wpOp
  simp only [ho]
  rw [gd_ok hR (by rw [hE.n]; exact hg)]
  simp only [if_true]
  left
  have hv : a.eval (.tmp q) = .func (.func f) #[] #[] := by
    have := hR.tm q (by rw [hE.n]; exact hq)
    rw [hf] at this
    simp only [Act.eval]
    cases this with
    | f _ _ hF => generalize a.tmps.getD q undef = u at hF ⊢; cases hF; rfl
  refine wp_fn hop hv ?_
  have hCa := Ca.mk (xs := none) (X := E.X) (s := s) (o := { o with op := .call { callee := .value (.func f), args, argTypes := tys } }) (τ := []) f args tys [] (outs t) cargs (res t) cl [] rfl rfl List.nodup_nil (fun j r h => by simp at h) (by rw [hE.n, hE.g]; exact hc) (aggFree_nil _) (by rw [hE.p, hE.g]; exact ((hh t ht).args hle).toG) rfl (fun h => hcl h t) (by rw [hE.n, hE.g]; exact htag)
    (fun d' hd' j hj => by rw [hd] at hd'; obtain rfl := Option.some.inj hd'; exact (hn t).2 j (by simpa using hj)) (by simpa using (hn t).1) rfl
  refine call_ok hR hCa (fun a' w' β' fz' hR' => h t E hE r hr fz' β' a' w' ?_)
  have e1 : ({ o with op := Op.call { callee := .value (.func f), args, argTypes := tys } } : Oper).dst = some d := hd
  rw [e1, hE.n, hE.g] at hR'
  exact hR'
end
end Go.Proofs.YtpchdjdochkjpaaGreatDoor.Am
set_option linter.unusedVariables false
set_option linter.unusedSimpArgs false
namespace Go.Proofs.YtpchdjdochkjpaaGreatDoor.Am
open Go Go.RowKit
section
variable {R T : Type} {M : Pm} {J : R → Out} {G G1 G2 : Option R} {k : List Item} {s s' : St} {ops : Array Oper} {idx : List Nat} {md : Option (Option Nat)}
def Qz (E : Fx) (J : R → Out) (k : List Item) (r : R) : Exit → Act → World → Prop := fun e a' w' => e = .normal ∧ ∃ s' fz' β', Rel E.X s' fz' β' a' w' ∧ AW E k s' (J r).1 (J r).2 (J r).3
def Cz (J : R → Out) (ops : Array Oper) (k : List Item) : Option Nat → Fx → R → St → Prop
  | none, E, r, s => AW E k s (J r).1 (J r).2 (J r).3
  | some n, E, r, s => ∀ fz β a w, Rel E.X s fz β a w → wpOps E.X.P ops (Qz E J k r) [n] a w
def SimB (md : Option (Option Nat)) (M : Pm) (J : R → Out) (ops : Array Oper) (G : Option R) (idx : List Nat) (k : List Item) (s : St) : Prop :=
  match md with
  | none => SimR M J ops G idx k s
  | some z => SimC (Cz J ops k z) M ops G idx s
theorem simB_none : SimB md M J ops (none : Option R) idx k s := by cases md; exact simR_none; exact simC_none
theorem simB_ite {c : Prop} [Decidable c] (h1 : c → SimB md M J ops G1 idx k s) (h2 : ¬ c → SimB md M J ops G2 idx k s) : SimB md M J ops (if c then G1 else G2) idx k s := by cases md; exact simR_ite h1 h2; exact simC_ite h1 h2
theorem simB_let {v : T} {F : T → Option R} (h : SimB md M J ops (F v) idx k s) : SimB md M J ops ((some v).bind F) idx k s := h
theorem simB_nil (h : Sim M J G k s) (hm : md = none ∨ md = some none) : SimB md M J ops G [] k s := by
  rcases hm with rfl | rfl
  · exact simR_nil h
  · exact simO_nil h
theorem simB_last {n : Nat} (h : SimB none M J ops G [n] k s) : SimB (some (some n)) M J ops G [] k s := fun E hE r hr => ⟨s, .nil s, fun fz β a w hR => h E hE r hr fz β a w hR⟩
theorem simB_skip {i : Nat} {o : Oper} (ho : ops[i]? = some o) (hg : gd M.N ops s.env o = some false) (h : SimB md M J ops G idx k { s with env := putE s.env o.dst .undef }) : SimB md M J ops G (i :: idx) k s := by cases md; exact simR_skip ho hg h; exact simC_skip ho hg h
theorem simB_act {i d : Nat} {o : Oper} {e : Eff} (ho : ops[i]? = some o) (hg : gd M.N ops s.env o = some true) (hd : o.dst = some d) (ha : act M.P M.N M.G s d o.op = some e) (h : SimB md M J ops G idx k (s.app (some d) e)) : SimB md M J ops G (i :: idx) k s := by cases md; exact simR_act ho hg hd ha h; exact simC_act ho hg hd ha h
theorem simB_act0 {i : Nat} {o : Oper} {e : Eff} (ho : ops[i]? = some o) (hg : gd M.N ops s.env o = some true) (hd : o.dst = none) (ha : act M.P M.N M.G s 0 o.op = some e) (hn : e.new = []) (h : SimB md M J ops G idx k (s.app none e)) : SimB md M J ops G (i :: idx) k s := by cases md; exact simR_act0 ho hg hd ha hn h; exact simC_act0 ho hg hd ha hn h
theorem simB_app {i d : Nat} {o : Oper} {x y : Operand} {t : TypeId} (ho : ops[i]? = some o) (hg : gd M.N ops s.env o = some true) (hd : o.dst = some d) (hop : o.op = .call { callee := .builtin .append, args := #[x, y], argTypes := #[t, t] })
    (ha : apA M.P s d t (ev M.N M.G s.env x) (ev M.N M.G s.env y) = some s') (h : SimB md M J ops G idx k s') : SimB md M J ops G (i :: idx) k s := by cases md; exact simR_app ho hg hd hop ha h; exact simC_app ho hg hd hop ha h
theorem simB_step {i : Nat} {o : Oper} {s1 : St} (ho : ops[i]? = some o) (hs : ∀ E, EOk M E → StepA E.X ops s o s1) (h : SimB md M J ops G idx k s1) : SimB md M J ops G (i :: idx) k s := by
  cases md
  · exact simR_cons ho hs h
  · exact fun E hE r hr => by
      obtain ⟨s2, h1, h2⟩ := h E hE r hr
      exact ⟨s2, .cons i idx s s1 s2 o ho (hs E hE) h1, h2⟩
theorem simB_callX {i d : Nat} {o : Oper} {f : Nat} {args : Array Operand} {tys : Array TypeId} {cargs cargs' : List AV} {res : T → AV} {outs : T → List Row} {A : Option T} {F : T → Option R} (τ : List Nat) (ins : List Row) (cl : Bool) {x : Rs} {x' : T → Rs} {xs : T → Option Rs}
    (hh : ∀ t, A = some t → HoldsX M.P M.G f ins cargs' [] x (res t) (outs t) (fun y => y = x' t))
    (hx : (x = Rs.no ∧ ∀ t, xs t = none) ∨ (x = s.x ∧ cl = false ∧ isX M.P f = true ∧ ∀ t, xs t = some (x' t) ∧ (x' t).rd = s.x.rd))
    (ho : ops[i]? = some o) (hop : o.op = .call { callee := .value (.func f), args, argTypes := tys }) (hd : o.dst = some d) (hw : τ = [] ∨ (isW M.P f = true ∧ ∀ t ∈ τ, ∃ x ∈ args.toList, Has t (ev M.N M.G s.env x))) (hg : gd M.N ops s.env o = some true) (hτ : chkR s τ ins) (hτn : τ.Nodup)
    (hc : convL τ s.H (args.toList.map (ev M.N M.G s.env)) = some cargs) (hle : leAL cargs cargs') (hag : aggFree τ (args.toList.map (ev M.N M.G s.env)) = true)
    (hcl : cl = true → ∀ t, closedR (res t) = true ∧ ∀ r ∈ outs t, ClosedRow r)
    (htag : cl = true ∨ tagOk (lentT τ (args.toList.map (ev M.N M.G s.env))) = true)
    (hn : ∀ t, (outs t).length - ins.length ≤ 16 ∧ ∀ j, j < (outs t).length - ins.length → s.H (tg d 0 + j) = none)
    (h : ∀ t, SimB md M J ops (F t) idx k (s.app (some d) { val := renV τ d (res t), new := (outs t).drop ins.length, wr := τ.zip (outs t), fz := if cl = true then [] else lentT τ (args.toList.map (ev M.N M.G s.env)), xs := xs t })) : SimB md M J ops (A.bind F) (i :: idx) k s := by
  have key : ∀ (E : Fx), EOk M E → ∀ t, A = some t → StepA E.X ops s o (s.app (some d) { val := renV τ d (res t), new := (outs t).drop ins.length, wr := τ.zip (outs t), fz := if cl = true then [] else lentT τ (args.toList.map (ev M.N M.G s.env)), xs := xs t }) := fun E hE t ht => by
    obtain ⟨g1, g2⟩ := chkR_get hτ
    have hCa : Ca E.X s o { val := renV τ d (res t), new := (outs t).drop ins.length, wr := τ.zip (outs t), fz := if cl = true then [] else lentT τ (args.toList.map (ev M.N M.G s.env)), xs := xs t } τ := by
      refine Ca.mk (xs := xs t) f args tys ins (outs t) cargs (res t) cl [] hop g1 hτn g2 (by rw [hE.n, hE.g]; exact hc) (by rw [hE.n, hE.g]; exact hag) (by rw [hE.p, hE.g]; exact (hh t ht).args hle) rfl (fun h => hcl h t) (by rw [hE.n, hE.g]; exact htag)
        (fun d' hd' j hj => by rw [hd] at hd'; obtain rfl := Option.some.inj hd'; exact (hn t).2 j hj) (hn t).1 (by rw [hd, hE.n, hE.g]; rfl) ?_
      rcases hx with ⟨h1, h2⟩ | ⟨h1, h2, h3, h4⟩
      · exact .inl ⟨h1, h2 t⟩
      · exact .inr ⟨h1, h2, by rw [hE.p]; exact h3, x' t, (h4 t).1, (h4 t).2, fun z hz => hz⟩
    rcases hw with hw | ⟨hw, hτa⟩
    · subst hw
      rw [← hd]
      exact .step (.call _ (by rw [hE.n]; exact hg) hCa)
    · exact .callW _ τ f args tys (by rw [hE.n]; exact hg) hCa hop (by rw [hE.p]; exact hw) (by rw [hd]) (by rw [hE.n, hE.g]; exact hτa)
  cases A with
  | none => exact simB_none
  | some t => exact simB_step ho (fun E hE => key E hE t rfl) (h t)
theorem simB_call {i d : Nat} {o : Oper} {f : Nat} {args : Array Operand} {tys : Array TypeId} {cargs cargs' : List AV} {res : T → AV} {outs : T → List Row} {A : Option T} {F : T → Option R} (cl : Bool)
    (hh : ∀ t, A = some t → Holds M.P M.G f [] cargs' (res t) (outs t))
    (ho : ops[i]? = some o) (hop : o.op = .call { callee := .value (.func f), args, argTypes := tys }) (hd : o.dst = some d) (hg : gd M.N ops s.env o = some true)
    (hc : convL [] s.H (args.toList.map (ev M.N M.G s.env)) = some cargs) (hle : leAL cargs cargs')
    (hcl : cl = true → ∀ t, closedR (res t) = true ∧ ∀ r ∈ outs t, ClosedRow r)
    (htag : cl = true ∨ tagOk (lentT [] (args.toList.map (ev M.N M.G s.env))) = true)
    (hn : ∀ t, (outs t).length ≤ 16 ∧ ∀ j, j < (outs t).length → s.H (tg d 0 + j) = none)
    (h : ∀ t, SimB md M J ops (F t) idx k (s.app (some d) { val := renV [] d (res t), new := outs t, fz := if cl = true then [] else lentT [] (args.toList.map (ev M.N M.G s.env)) })) : SimB md M J ops (A.bind F) (i :: idx) k s := by
  cases md; exact simR_call cl hh ho hop hd hg hc hle hcl htag hn h; exact simC_call cl hh ho hop hd hg hc hle hcl htag hn h
theorem simB_callW {i d : Nat} {o : Oper} {f : Nat} {args : Array Operand} {tys : Array TypeId} {cargs cargs' : List AV} {res : T → AV} {outs : T → List Row} {A : Option T} {F : T → Option R} (τ : List Nat) (ins : List Row) (cl : Bool)
    (hh : ∀ t, A = some t → Holds M.P M.G f ins cargs' (res t) (outs t))
    (ho : ops[i]? = some o) (hop : o.op = .call { callee := .value (.func f), args, argTypes := tys }) (hd : o.dst = some d) (hw : isW M.P f = true) (hτa : ∀ t ∈ τ, ∃ x ∈ args.toList, Has t (ev M.N M.G s.env x)) (hg : gd M.N ops s.env o = some true) (hτ : chkR s τ ins) (hτn : τ.Nodup)
    (hc : convL τ s.H (args.toList.map (ev M.N M.G s.env)) = some cargs) (hle : leAL cargs cargs') (hag : aggFree τ (args.toList.map (ev M.N M.G s.env)) = true)
    (hcl : cl = true → ∀ t, closedR (res t) = true ∧ ∀ r ∈ outs t, ClosedRow r)
    (htag : cl = true ∨ tagOk (lentT τ (args.toList.map (ev M.N M.G s.env))) = true)
    (hn : ∀ t, (outs t).length - ins.length ≤ 16 ∧ ∀ j, j < (outs t).length - ins.length → s.H (tg d 0 + j) = none)
    (h : ∀ t, SimB md M J ops (F t) idx k (s.app (some d) { val := renV τ d (res t), new := (outs t).drop ins.length, wr := τ.zip (outs t), fz := if cl = true then [] else lentT τ (args.toList.map (ev M.N M.G s.env)) })) : SimB md M J ops (A.bind F) (i :: idx) k s := by
  cases md; exact simR_callW τ ins cl hh ho hop hd hw hτa hg hτ hτn hc hle hag hcl htag hn h; exact simC_callW τ ins cl hh ho hop hd hw hτa hg hτ hτn hc hle hag hcl htag hn h
theorem sim_drawLast {id n : Nat} (hm : M.P.follows .mixedOrders = true) (hsz : n + 1 = ops.size) (hD : drawOKn M.P ops (fun _ _ => false) n = true) (hl : (List.range n).all (dirE ops n) = true) (ha : (match ops[n]? with | some o => o.after.all (fun e => !Region.binds .any e || decide (e.on < n)) | none => true) = true)
    (h : SimB (some (some n)) M J ops G (List.range n) k s) : Sim M J G (.code (.region id ops true) :: k) s := fun E hE r hr fz β a w hR b cs hb hk => by
  obtain ⟨s', h1, h2⟩ := h E hE r hr
  have hD' : drawOKn E.X.P ops (fun _ _ => false) n = true := by rw [hE.p]; exact hD
  have hwp := draw_any (X := E.X) (n := n) (Q := Qz E J k r) (swap_none E.X ops) hD' (.inr ⟨hsz, fun p hp => List.all_eq_true.1 hl p (List.mem_range.2 hp)⟩) (fun o ho e he hb => by
      rw [ho] at ha
      have := Array.all_eq_true_iff_forall_mem.1 ha e he
      simpa [hb] using this) (fun h => by omega) (fun _ a' w' β' fz' h' => (by
      have := h2 fz' β' a' w' h'
      rw [wpOps_cons] at this
      exact this)) ops.size (List.range n) (Array.replicate ops.size false) s fz β a _ (by simp; omega) (by simp)
    (fun i => by
      by_cases hi : i < ops.size <;> simp [hi] <;> omega) (List.pairwise_lt_range) (fun i hi => List.mem_range.1 hi) (fun i o ho hi hn => absurd (List.mem_range.2 hi) hn) (RunE.of h1 fun i hi o ho => (drawOK_spec hD' (List.mem_range.1 hi) ho).1) trivial hR.drew
  obtain ⟨e, a', w', ⟨rfl, s'', fz', β', hR', hA⟩, harr⟩ := wp_region_any (id := id) (by rw [hE.p]; exact hm) hwp b k cs
  obtain ⟨v, w'', fr, g1, g2⟩ := hA _ _ _ _ hR' b cs hb hk
  exact ⟨v, w'', fr, Steps.trans harr g1, g2⟩
end
section
variable {R T : Type} {M : Pm} {J : R → Out} {G : Option R} {k : List Item} {env : Nat → AV} {H : Nat → Option Row} {fr : Nat → Bool} {ρ : Rs} {ops : Array Oper} {idx : List Nat} {md : Option (Option Nat)} {i d : Nat} {op : Op} {ty : TypeId} {pos : String} {af : Array Edge}
theorem sim_mk {L : List (Nat × AV)} {ν : List Nat} {rows : List Row} (h : Sim M J G k ⟨envL L, rowsL ν rows, fun _ => false, ρ⟩) : Sim M J G k (mkS L ν rows ρ) := h
theorem simB_val {x : AV} (ho : ops[i]? = some ⟨some d, op, ty, pos, af, none⟩) (ha : act M.P M.N M.G ⟨env, H, fr, ρ⟩ d op = some ⟨x, [], [], [], none⟩) (h : SimB md M J ops G idx k ⟨upd env d x, H, fr, ρ⟩) : SimB md M J ops G (i :: idx) k ⟨env, H, fr, ρ⟩ :=
  simB_act ho rfl rfl ha h
theorem simB_new {x : AV} {nw : List Row} {w : List (Nat × Row)} {fz : List Nat} {H' : Nat → Option Row} {fr' : Nat → Bool} (ho : ops[i]? = some ⟨some d, op, ty, pos, af, none⟩) (ha : act M.P M.N M.G ⟨env, H, fr, ρ⟩ d op = some ⟨x, nw, w, fz, none⟩)
    (hH : newH (putW H w) (tg d 0) nw = H') (hf : newF (frz fr fz) (tg d 0) nw = fr') (h : SimB md M J ops G idx k ⟨upd env d x, H', fr', ρ⟩) : SimB md M J ops G (i :: idx) k ⟨env, H, fr, ρ⟩ := by
  subst hH hf; exact simB_act ho rfl rfl ha h
theorem simB_st {x : AV} {w : List (Nat × Row)} {fz : List Nat} {H' : Nat → Option Row} {fr' : Nat → Bool} (ho : ops[i]? = some ⟨none, op, ty, pos, af, none⟩) (ha : act M.P M.N M.G ⟨env, H, fr, ρ⟩ 0 op = some ⟨x, [], w, fz, none⟩)
    (hH : putW H w = H') (hf : frz fr fz = fr') (h : SimB md M J ops G idx k ⟨env, H', fr', ρ⟩) : SimB md M J ops G (i :: idx) k ⟨env, H, fr, ρ⟩ := by
  subst hH hf; exact simB_act0 ho rfl rfl ha rfl h
theorem gd_some {o : Oper} {N j g : Nat} {want b : Bool} (hg : o.guard = some (j, want)) (hd : (ops[j]?).bind (·.dst) = some g) (hN : g < N) (he : env g = .bool b) : gd N ops env o = some (b == want) := by
  unfold gd; rw [hg]; simp only [hd, hN, decide_true, need, cond_true, he]
theorem gd_undef {o : Oper} {N j g : Nat} {want : Bool} (hg : o.guard = some (j, want)) (hd : (ops[j]?).bind (·.dst) = some g) (hN : g < N) (he : env g = .undef) : gd N ops env o = some false := by
  unfold gd; rw [hg]; simp only [hd, hN, decide_true, need, cond_true, he]
theorem simB_valG {x : AV} {j g : Nat} {want b : Bool} (ho : ops[i]? = some ⟨some d, op, ty, pos, af, some (j, want)⟩) (hd : (ops[j]?).bind (·.dst) = some g) (hN : g < M.N) (he : env g = .bool b) (hb : b = want) (ha : act M.P M.N M.G ⟨env, H, fr, ρ⟩ d op = some ⟨x, [], [], [], none⟩)
    (h : SimB md M J ops G idx k ⟨upd env d x, H, fr, ρ⟩) : SimB md M J ops G (i :: idx) k ⟨env, H, fr, ρ⟩ :=
  simB_act ho (by rw [gd_some rfl hd hN he, hb]; simp) rfl ha h
theorem simB_newG {x : AV} {nw : List Row} {w : List (Nat × Row)} {fz : List Nat} {H' : Nat → Option Row} {fr' : Nat → Bool} {j g : Nat} {want b : Bool} (ho : ops[i]? = some ⟨some d, op, ty, pos, af, some (j, want)⟩) (hd : (ops[j]?).bind (·.dst) = some g) (hN : g < M.N) (he : env g = .bool b) (hb : b = want) (ha : act M.P M.N M.G ⟨env, H, fr, ρ⟩ d op = some ⟨x, nw, w, fz, none⟩)
    (hH : newH (putW H w) (tg d 0) nw = H') (hf : newF (frz fr fz) (tg d 0) nw = fr') (h : SimB md M J ops G idx k ⟨upd env d x, H', fr', ρ⟩) : SimB md M J ops G (i :: idx) k ⟨env, H, fr, ρ⟩ := by
  subst hH hf; exact simB_act ho (by rw [gd_some rfl hd hN he, hb]; simp) rfl ha h
theorem simB_skipG {j g : Nat} {want b : Bool} (ho : ops[i]? = some ⟨some d, op, ty, pos, af, some (j, want)⟩) (hd : (ops[j]?).bind (·.dst) = some g) (hN : g < M.N) (he : env g = .bool b) (hb : b = !want)
    (h : SimB md M J ops G idx k ⟨upd env d .undef, H, fr, ρ⟩) : SimB md M J ops G (i :: idx) k ⟨env, H, fr, ρ⟩ :=
  simB_skip ho (by rw [gd_some rfl hd hN he, hb]; cases want <;> rfl) h
theorem simB_skipU {j g : Nat} {want : Bool} (ho : ops[i]? = some ⟨some d, op, ty, pos, af, some (j, want)⟩) (hd : (ops[j]?).bind (·.dst) = some g) (hN : g < M.N) (he : env g = .undef)
    (h : SimB md M J ops G idx k ⟨upd env d .undef, H, fr, ρ⟩) : SimB md M J ops G (i :: idx) k ⟨env, H, fr, ρ⟩ :=
  simB_skip ho (gd_undef rfl hd hN he) h
theorem simB_app' {x y : Operand} {t t' : TypeId} {env' : Nat → AV} {H' : Nat → Option Row} {fr' : Nat → Bool} (ho : ops[i]? = some ⟨some d, .call ⟨.builtin .append, #[x, y], #[t, t]⟩, ty, pos, af, none⟩)
    (ha : apA M.P ⟨env, H, fr, ρ⟩ d t (ev M.N M.G env x) (ev M.N M.G env y) = some ⟨env', H', fr', ρ⟩) (h : SimB md M J ops G idx k ⟨env', H', fr', ρ⟩) : SimB md M J ops G (i :: idx) k ⟨env, H, fr, ρ⟩ :=
  simB_app ho rfl rfl rfl ha h
theorem simB_call' {f : Nat} {args : Array Operand} {tys : Array TypeId} {avs cargs cargs' : List AV} {res : T → AV} {outs : T → List Row} {A : Option T} {F : T → Option R} {lt : List Nat} {fr' : Nat → Bool} (cl : Bool)
    (hh : ∀ t, A = some t → Holds M.P M.G f [] cargs' (res t) (outs t))
    (ho : ops[i]? = some ⟨some d, .call ⟨.value (.func f), args, tys⟩, ty, pos, af, none⟩) (hav : args.toList.map (ev M.N M.G env) = avs)
    (hc : convL [] H avs = some cargs) (hle : leAL cargs cargs')
    (hcl : cl = true → ∀ t, closedR (res t) = true ∧ ∀ r ∈ outs t, ClosedRow r)
    (hlt : (if cl = true then [] else lentT [] avs) = lt) (htag : tagOk lt = true) (hf : frz fr lt = fr')
    (hn : ∀ t, (outs t).length ≤ 16 ∧ ∀ j, j < (outs t).length → H (tg d 0 + j) = none)
    (h : ∀ t, SimB md M J ops (F t) idx k ⟨upd env d (renV [] d (res t)), newH H (tg d 0) (outs t), newF fr' (tg d 0) (outs t), ρ⟩) : SimB md M J ops (A.bind F) (i :: idx) k ⟨env, H, fr, ρ⟩ := by
  subst hav hlt hf
  refine simB_call cl hh ho rfl rfl rfl hc hle hcl ?_ hn (fun t => ?_)
  · cases cl
    · exact .inr (by simpa using htag)
    · exact .inl rfl
  · exact h t
theorem simB_callG {f : Nat} {args : Array Operand} {tys : Array TypeId} {avs cargs cargs' : List AV} {res : T → AV} {outs : T → List Row} {A : Option T} {F : T → Option R} {lt : List Nat} {fr' : Nat → Bool} {j g : Nat} {want b : Bool} (cl : Bool)
    (hh : ∀ t, A = some t → Holds M.P M.G f [] cargs' (res t) (outs t))
    (ho : ops[i]? = some ⟨some d, .call ⟨.value (.func f), args, tys⟩, ty, pos, af, some (j, want)⟩) (hd : (ops[j]?).bind (·.dst) = some g) (hN : g < M.N) (he : env g = .bool b) (hb : b = want) (hav : args.toList.map (ev M.N M.G env) = avs)
    (hc : convL [] H avs = some cargs) (hle : leAL cargs cargs')
    (hcl : cl = true → ∀ t, closedR (res t) = true ∧ ∀ r ∈ outs t, ClosedRow r)
    (hlt : (if cl = true then [] else lentT [] avs) = lt) (htag : tagOk lt = true) (hf : frz fr lt = fr')
    (hn : ∀ t, (outs t).length ≤ 16 ∧ ∀ j, j < (outs t).length → H (tg d 0 + j) = none)
    (h : ∀ t, SimB md M J ops (F t) idx k ⟨upd env d (renV [] d (res t)), newH H (tg d 0) (outs t), newF fr' (tg d 0) (outs t), ρ⟩) : SimB md M J ops (A.bind F) (i :: idx) k ⟨env, H, fr, ρ⟩ := by
  subst hav hlt hf
  refine simB_call cl hh ho rfl rfl (by rw [gd_some rfl hd hN he, hb]; simp) hc hle hcl ?_ hn (fun t => ?_)
  · cases cl
    · exact .inr (by simpa using htag)
    · exact .inl rfl
  · exact h t
theorem sim_condY {c : Operand} {x y : Code} {t : Bool} (hc : ev M.N M.G env c = .bool t) (ht : t = true) (h : Sim M J G (.code x :: k) ⟨env, H, fr, ρ⟩) : Sim M J G (.code (.cond c x y) :: k) ⟨env, H, fr, ρ⟩ := by subst ht; exact sim_condT hc h
theorem sim_condN {c : Operand} {x y : Code} {t : Bool} (hc : ev M.N M.G env c = .bool t) (ht : t = false) (h : Sim M J G (.code y :: k) ⟨env, H, fr, ρ⟩) : Sim M J G (.code (.cond c x y) :: k) ⟨env, H, fr, ρ⟩ := by subst ht; exact sim_condF hc h
theorem sim_reg {id : Nat} {l : List Nat} (hl : List.range ops.size = l) (h : SimB none M J ops G l k ⟨env, H, fr, ρ⟩) : Sim M J G (.code (.region id ops false) :: k) ⟨env, H, fr, ρ⟩ := by subst hl; exact sim_regionR h
end
theorem evE : (∀ N G env t, ev N G env (.tmp t) = cond (decide (t < N)) (env t) .dead) ∧ (∀ N G env k n, ev N G env (.const (.int k n)) = .int k n) ∧ (∀ N G env b, ev N G env (.const (.bool b)) = .bool b) ∧ (∀ N G env b, ev N G env (.const (.string b)) = .str b) ∧
    (∀ N G env, ev N G env (.const (.slice none 0 0)) = .nil) ∧ (∀ N G env g, ev N G env (.global g) = G g) ∧ (∀ N G env f, ev N G env (.func f) = .fn f) ∧ (∀ N G env, ev N G env (.const (.pointer none)) = .raw (.pointer none)) ∧ (∀ N G env vs, ev N G env (.const (.agg vs)) = .agg (vs.toList.map cavS)) ∧
    (∀ (env : Nat → AV) i x j, upd env i x j = if j = i then x else env j) ∧ (∀ p l j, envL (p :: l) j = if j = p.1 then p.2 else envL l j) ∧ (∀ j, envL [] j = .dead) :=
  ⟨fun _ _ _ _ => rfl, fun _ _ _ _ _ => rfl, fun _ _ _ _ => rfl, fun _ _ _ _ => rfl, fun _ _ _ => rfl, fun _ _ _ _ => rfl, fun _ _ _ _ => rfl, fun _ _ _ => rfl, fun _ _ _ _ => rfl, fun _ _ _ _ => rfl, fun _ _ _ => rfl, fun _ => rfl⟩
theorem rwE : (∀ (H : Nat → Option Row) i x j, upd H i x j = if j = i then x else H j) ∧ (∀ (f : Nat → Bool) i x j, upd f i x j = if j = i then x else f j) ∧ (∀ t τ r rs j, rowsL (t :: τ) (r :: rs) j = if j = t then some r else rowsL τ rs j) ∧ (∀ rs j, rowsL [] rs j = none) ∧
    (∀ H b, newH H b [] = H) ∧ (∀ H b r rs, newH H b (r :: rs) = newH (upd H b (some r)) (b + 1) rs) ∧ (∀ f b, newF f b [] = f) ∧ (∀ f b r rs, newF f b (r :: rs) = newF (upd f b false) (b + 1) rs) ∧ (∀ H, putW H [] = H) ∧ (∀ H t r l, putW H ((t, r) :: l) = putW (upd H t (some r)) l) ∧
    (∀ f, frz f [] = f) ∧ (∀ f t l, frz f (t :: l) = frz (upd f t true) l) ∧ (∀ d j, tg d j = 16 * (d + 1) + j) :=
  ⟨fun _ _ _ _ => rfl, fun _ _ _ _ => rfl, fun _ _ _ _ _ => rfl, fun rs _ => by cases rs <;> rfl, fun _ _ => rfl, fun _ _ _ _ => rfl, fun _ _ => rfl, fun _ _ _ _ => rfl, fun _ => rfl, fun _ _ _ _ => rfl, fun _ => rfl, fun _ _ _ => rfl, fun _ _ => rfl⟩
theorem actE : (∀ P N G s d x, act P N G s d (.move x) = some { val := ev N G s.env x }) ∧ (∀ P N G s d x, act P N G s d (.assign x) = some { val := ev N G s.env x }) ∧
    (∀ P N G s d op t x y yt, act P N G s d (.binOp op t x y yt) = vo (bn P t op (ev N G s.env x) (ev N G s.env y))) ∧ (∀ P N G s d op t x, act P N G s d (.unOp op t x) = vo (un op (ev N G s.env x))) ∧
    (∀ P N G s d a b x, act P N G s d (.convert a b x) = vo (cvt P s.H a b (ev N G s.env x))) ∧ (∀ P N G s d t x i, act P N G s d (.index t x i) = vo (idx P t (ev N G s.env x) (ev N G s.env i))) ∧
    (∀ P N G s d t x i, act P N G s d (.indexAddr t x i) = vo (idxA P s.H t (ev N G s.env x) (ev N G s.env i))) ∧ (∀ P N G s d t x f, act P N G s d (.fieldAddr t x f) = vo (ptrFd P t f (ev N G s.env x))) ∧
    (∀ P N G s d t x lo hi, act P N G s d (.slice t x lo hi none) = vo (cut P s.H t (ev N G s.env x) (lo.map (ev N G s.env)) (hi.map (ev N G s.env)))) ∧ (∀ P N G s d t p, act P N G s d (.load t p) = vo (ldX P s t (ev N G s.env p))) ∧
    (∀ P N G s d t p x, act P N G s d (.store t p x) = st P s.H s.fr t (ev N G s.env p) (ev N G s.env x)) ∧ (∀ P N G s d t ps, act P N G s d (.build t ps) = vo (mkAgg P t (ps.toList.map fun p => (p.1, ev N G s.env p.2)))) ∧
    (∀ P N G s d x t, act P N G s d (.call ⟨.builtin .len, #[x], #[t]⟩) = vo (lenV P t (ev N G s.env x))) ∧ (∀ P N G s d x y t t', act P N G s d (.call ⟨.builtin .copy, #[x, y], #[t, t']⟩) = cpA P s.H s.fr t (ev N G s.env x) (ev N G s.env y)) ∧
    (∀ P N G s d x, act P N G s d (.nilCheck x) = vo (nlC (ev N G s.env x))) ∧ (∀ x, vo (some x) = some { val := x }) ∧ (∀ (b : Bool) (x y : AV), (bif b then x else y) = cond b x y) :=
  ⟨fun _ _ _ _ _ _ => rfl, fun _ _ _ _ _ _ => rfl, fun _ _ _ _ _ _ _ _ _ _ => rfl, fun _ _ _ _ _ _ _ _ => rfl, fun _ _ _ _ _ _ _ _ => rfl, fun _ _ _ _ _ _ _ _ => rfl, fun _ _ _ _ _ _ _ _ => rfl, fun _ _ _ _ _ _ _ _ => rfl, fun _ _ _ _ _ _ _ _ _ => rfl, fun _ _ _ _ _ _ _ => rfl,
    fun _ _ _ _ _ _ _ _ => rfl, fun _ _ _ _ _ _ _ => rfl, fun _ _ _ _ _ _ _ => rfl, fun _ _ _ _ _ _ _ _ _ => rfl, fun _ _ _ _ _ _ => rfl, fun _ => rfl, fun _ _ _ => rfl⟩
theorem ldXE : (∀ P s t x, ldX P s t (.fptr x) = ld P s.H t (.fptr x)) ∧ (∀ P s t a b c, ldX P s t (.optr a b c) = ld P s.H t (.optr a b c)) ∧ (∀ t i o, nlC (.optr t i o) = some (.optr t i o)) ∧ (∀ y, nlC (.fptr y) = some (.fptr y)) ∧ (∀ a, nlC (.raw (.pointer (some a))) = some (.raw (.pointer (some a)))) :=
  ⟨fun _ _ _ _ => rfl, fun _ _ _ _ _ _ => rfl, fun _ _ _ => rfl, fun _ => rfl, fun _ => rfl⟩
theorem voSome {x : AV} : vo (some x) = some { val := x } := by cases x <;> rfl
theorem voNone : vo none = none := by unfold vo; rfl
theorem cutOwn {P : Program} {H : Nat → Option Row} {t : TypeId} {t' off n : Nat} {lo hi : Option AV} : cut P H t (.own t' off n) lo hi = (match H t', elS P t, optI lo 0, optI hi (n : Int) with
    | some r, some (_, s', _, _), some l, some h => if r.s = s' then need (decide (0 ≤ l)) (need (decide (l ≤ h)) (need (decide (h ≤ (n : Int))) (some (.own t' (off + l.toNat) (h.toNat - l.toNat))))) else none
    | _, _, _, _ => none) := by
  unfold cut
  rcases optI lo 0 with _ | l <;> dsimp only <;> rcases H t' with _ | r <;> rcases elS P t with _ | ⟨e, s, b, z⟩ <;> rcases optI hi (n : Int) with _ | h <;> rfl
theorem cutStr {P : Program} {H : Nat → Option Row} {t : TypeId} {s : ByteArray} {lo hi : Option AV} : cut P H t (.str s) lo hi = (match kn P t, optI lo 0, optI hi (s.size : Int) with
    | .str, some l, some h => need (decide (0 ≤ l)) (need (decide (l ≤ h)) (need (decide (h ≤ (s.size : Int))) (some (.str (s.extract l.toNat h.toNat)))))
    | _, _, _ => none) := by
  unfold cut
  rcases optI lo 0 with _ | l <;> dsimp only <;> rcases hk : kn P t with _ | _ | _ | _ | _ <;> rcases optI hi (s.size : Int) with _ | h <;> simp [hk]
theorem cutSl {P : Program} {H : Nat → Option Row} {t : TypeId} {s : Nat} {z : AV} {xs : List AV} {lo hi : Option AV} : cut P H t (.sl s z xs) lo hi = (match kn P t, elS P t, optI lo 0, optI hi (xs.length : Int) with
    | .slice _, some (_, s', _, _), some l, some h => if s = s' then need (decide (0 ≤ l)) (need (decide (l ≤ h)) (need (decide (h ≤ (xs.length : Int))) (some (.sl s z (sub xs l.toNat (h.toNat - l.toNat)))))) else none
    | _, _, _, _ => none) := by
  unfold cut
  rcases optI lo 0 with _ | l <;> dsimp only <;> rcases hk : kn P t with _ | _ | _ | _ | _ <;> rcases he : elS P t with _ | ⟨e, s', b, z'⟩ <;> rcases optI hi (xs.length : Int) with _ | h <;> simp [hk, he]
end Go.Proofs.YtpchdjdochkjpaaGreatDoor.Am
set_option linter.unusedVariables false
set_option linter.unusedSimpArgs false
namespace Go.Proofs.YtpchdjdochkjpaaGreatDoor.Am
open Go Go.RowKit Go.Proofs.YtpchdjdochkjpaaGreatDoorW.PrintWords Go.Proofs.YtpchdjdochkjpaaGreatDoorW.PrintMore
attribute [go_sem] Int.reduceToNat Int.reduceLE Int.reduceLT Nat.reduceLT Nat.reduceEqDiff Nat.reduceAdd Nat.reduceMul Nat.reduceSub Nat.reduceDiv Nat.reduceLeDiff Nat.reduceBEq reduceIte reduceCtorEq
theorem mapE : (∀ {α : Type} (f : α → AV) (l : List α) (n : Nat) (d : α), (l.map f).getD n (f d) = f (l.getD n d)) ∧ (∀ {α : Type} (f : α → AV) (l : List α) (n : Nat) (x : α), (l.map f).set n (f x) = (l.set n x).map f) ∧
    (∀ {α : Type} (f : α → AV) (l : List α) (o n : Nat), sub (l.map f) o n = ((l.drop o).take n).map f) ∧ (∀ {α : Type} (f : α → AV) (l : List α) (n : Nat), (l.map f).take n = (l.take n).map f) ∧
    (∀ {α : Type} (f : α → AV) (l l' : List α), l.map f ++ l'.map f = (l ++ l').map f) ∧ (∀ {α : Type} (f : α → AV) (l : List α), (l.map f).length = l.length) ∧ (∀ {α : Type} (f : α → AV) (n : Nat) (d : α), List.replicate n (f d) = (List.replicate n d).map f) ∧ (∀ {α : Type} (l : List α), l.take l.length = l) :=
  ⟨fun f l n d => by simp [List.getD], fun f l n x => by rw [List.map_set], fun f l o n => by simp [sub, List.map_take, List.map_drop], fun f l n => by rw [List.map_take], fun f l l' => by rw [List.map_append], fun f l => List.length_map f, fun f n d => by rw [List.map_replicate], fun l => List.take_length⟩
theorem cpl_map {α : Type} (f : α → AV) (xs ys : List α) (N : Nat) (n : Nat) (hn : n = xs.length - N) : cpl (xs.map f) N (min ys.length n) (ys.map f) = (cpy xs N ys).map f := by
  subst hn
  unfold cpl cpy
  simp only [← List.map_take, ← List.map_drop, ← List.map_append, List.append_assoc]
  congr 2
  rcases Nat.le_total ys.length (xs.length - N) with h | h
  · rw [Nat.min_eq_left h, List.take_of_length_le (Nat.le_refl _), List.take_of_length_le h]
  · rw [Nat.min_eq_right h, List.drop_eq_nil_of_le (by omega), List.drop_eq_nil_of_le (by omega)]
theorem cpl_0 {α : Type} (f : α → AV) (xs ys : List α) (k : Nat) (hk : k = min ys.length xs.length) : cpl (xs.map f) 0 k (ys.map f) = (cpy xs 0 ys).map f := by subst hk; exact cpl_map f xs ys 0 _ (by simp)
theorem rdE : (∀ (l : List Int) (i : Int), l.getD i.toNat 0 = rd l i) ∧ (∀ (s : ByteArray) (i : Int), bts s i = bt s i) ∧ (∀ (a b : Int), (if b < a then b else a) = mn a b) ∧ (∀ (a b : Int), (if b > a then b else a) = mx a b) ∧ (∀ (l : List Bool) (i : Int), l.getD i.toNat false = rdOf false l i) :=
  ⟨fun _ _ => rfl, fun _ _ => rfl, fun _ _ => rfl, fun _ _ => rfl, fun _ _ => rfl⟩
theorem wrE : (∀ n, wr .i64 n = wrap64 n) ∧ (∀ n, wr .u32 n = n % 4294967296) ∧ (∀ n, wr .u8 n = n % 256) ∧ (∀ n, wr .u64 n = IntKind.u64.wrap n) ∧ (∀ n, wr .i32 n = IntKind.i32.wrap n) ∧ (∀ n, wr .u16 n = IntKind.u16.wrap n) :=
  ⟨fun _ => rfl, fun _ => rfl, fun _ => rfl, fun _ => rfl, fun _ => rfl, fun _ => rfl⟩
theorem getI {k : IntKind} {l : List Int} {i : Int} (h0 : decide (0 ≤ i) = true) (h1 : decide (i < (l.length : Int)) = true) : (l.map (AV.int k)).getD i.toNat .dead = .int k (rd l i) := by
  have h0 := of_decide_eq_true h0
  have h1 := of_decide_eq_true h1
  have hi : i.toNat < l.length := by omega
  simp [hi, rd]
theorem subE : (∀ a : AV, sub [a] 0 1 = [a]) ∧ (∀ a b : AV, sub [a, b] 0 2 = [a, b]) ∧ (∀ a b c : AV, sub [a, b, c] 0 3 = [a, b, c]) ∧ (∀ a b c d : AV, sub [a, b, c, d] 0 4 = [a, b, c, d]) ∧ sub ([] : List AV) 0 0 = [] ∧
    (∀ {α : Type} (f : α → AV) (l : List α) (a : α), l.map f ++ [f a] = (l ++ [a]).map f) ∧ (∀ {α : Type} (f : α → AV) (l : List α) (a b : α), l.map f ++ [f a, f b] = (l ++ [a, b]).map f) ∧
    (∀ {α : Type} (l : List α) (a : α), (l ++ [a]).take (l.length + 1) = l ++ [a]) ∧ (∀ {α : Type} (l : List α) (a b : α), (l ++ [a, b]).take (l.length + 2) = l ++ [a, b]) ∧ (∀ {α : Type} (l m : List α), (l ++ m).take (l.length + m.length) = l ++ m) :=
  ⟨fun _ => rfl, fun _ _ => rfl, fun _ _ _ => rfl, fun _ _ _ _ => rfl, rfl, fun f l a => by simp, fun f l a b => by simp, fun l a => List.take_of_length_le (by simp), fun l a b => List.take_of_length_le (by simp), fun l m => List.take_of_length_le (by simp)⟩
theorem litE : litRow 0 [] = some [] ∧ (∀ a, litRow 1 [(0, a)] = some [a]) ∧ (∀ a b, litRow 2 [(0, a), (1, b)] = some [a, b]) ∧ (∀ a b c, litRow 3 [(0, a), (1, b), (2, c)] = some [a, b, c]) ∧ (∀ a b c d, litRow 4 [(0, a), (1, b), (2, c), (3, d)] = some [a, b, c, d]) ∧
    (∀ a b c d e, litRow 5 [(0, a), (1, b), (2, c), (3, d), (4, e)] = some [a, b, c, d, e]) ∧ (∀ a b c d e f, litRow 6 [(0, a), (1, b), (2, c), (3, d), (4, e), (5, f)] = some [a, b, c, d, e, f]) :=
  ⟨rfl, fun _ => rfl, fun _ _ => rfl, fun _ _ _ => rfl, fun _ _ _ _ => rfl, fun _ _ _ _ _ => rfl, fun _ _ _ _ _ _ => rfl⟩
theorem cpyL {α : Type} (xs ys : List α) : (cpy xs 0 ys).length = xs.length := by simp [cpy]; omega
theorem cpyLi {α : Type} (xs ys : List α) {i : Int} (h0 : decide (0 ≤ i) = true) (h1 : decide (i ≤ (xs.length : Int)) = true) : (cpy xs i.toNat ys).length = xs.length := by
  have h0 := of_decide_eq_true h0
  have h1 := of_decide_eq_true h1
  simp [cpy]; omega
theorem cplE : (∀ {α : Type} (f : α → AV) (ys : List α) (n : Nat) (d : α), cpl ((List.replicate n d).map f) 0 (min ys.length n) (ys.map f) = (cpy (List.replicate n d) 0 ys).map f) ∧ (∀ {α : Type} (f : α → AV) (xs ys : List α), cpl (xs.map f) 0 (min ys.length xs.length) (ys.map f) = (cpy xs 0 ys).map f) ∧
    (∀ {α : Type} (f : α → AV) (xs ys : List α) (o : Nat), cpl (xs.map f) o (min ys.length (xs.length - o)) (ys.map f) = (cpy xs o ys).map f) ∧ (∀ {α : Type} (f : α → AV) (ys : List α) (d : α) (n o : Nat), cpl ((List.replicate n d).map f) o (min ys.length (n - o)) (ys.map f) = (cpy (List.replicate n d) o ys).map f) ∧
    (∀ {α : Type} (f : α → AV) (xs ys : List α) (o : Nat), cpl (xs.map f) o (min ys.length ((xs.length : Int).toNat - o)) (ys.map f) = (cpy xs o ys).map f) ∧ (∀ {α : Type} (f : α → AV) (ys : List α) (d : α) (n o : Nat), cpl ((List.replicate n d).map f) o (min ys.length ((n : Int).toNat - o)) (ys.map f) = (cpy (List.replicate n d) o ys).map f) :=
  ⟨fun f ys n d => cpl_0 f _ ys _ (by simp), fun f xs ys => cpl_0 f xs ys _ rfl, fun f xs ys o => cpl_map f xs ys o _ rfl, fun f ys d n o => cpl_map f _ ys o _ (by simp), fun f xs ys o => cpl_map f xs ys o _ (by simp), fun f ys d n o => cpl_map f _ ys o _ (by simp)⟩
theorem shE : (∀ k x y, shlA k x y = shl k x y) ∧ (∀ k x y, shrA k x y = shr k x y) ∧ (∀ x, shr .u64 x 8 = x / 256) ∧ (∀ x, shl .u64 x 8 = IntKind.u64.wrap (x * 256)) ∧ (∀ x, shr .u64 x 16 = x / 65536) ∧ (∀ x, shl .u64 x 16 = IntKind.u64.wrap (x * 65536)) ∧ (∀ x, shr .u64 x 32 = x / 4294967296) ∧ (∀ x, shl .u64 x 32 = IntKind.u64.wrap (x * 4294967296)) ∧ (∀ x, shr .i64 x 8 = x / 256) ∧ (∀ x, shl .i64 x 8 = wrap64 (x * 256)) ∧ (∀ x, shr .i64 x 16 = x / 65536) ∧ (∀ x, shl .i64 x 16 = wrap64 (x * 65536)) ∧ (∀ x, shr .i64 x 32 = x / 4294967296) ∧ (∀ x, shl .i64 x 32 = wrap64 (x * 4294967296)) ∧ (∀ x, shr .u32 x 8 = x / 256) ∧ (∀ x, shl .u32 x 8 = (x * 256) % 4294967296) ∧ (∀ x, shr .u32 x 16 = x / 65536) ∧ (∀ x, shl .u32 x 16 = (x * 65536) % 4294967296) :=
  ⟨fun k x y => wr_eq k _, fun _ _ _ => rfl, fun _ => rfl, fun _ => rfl, fun _ => rfl, fun _ => rfl, fun _ => rfl, fun _ => rfl, fun _ => rfl, fun _ => (wr_eq .i64 _).symm, fun _ => rfl, fun _ => (wr_eq .i64 _).symm, fun _ => rfl, fun _ => (wr_eq .i64 _).symm, fun _ => rfl, fun _ => (wr_eq .u32 _).symm, fun _ => rfl, fun _ => (wr_eq .u32 _).symm⟩
theorem takeDn {α : Type} (l : List α) (i n : Nat) (h : l.length = n) : (l.drop i).take ((n : Int).toNat - i) = l.drop i := List.take_of_length_le (by rw [List.length_drop, h, Int.toNat_natCast]; exact Nat.le_refl _)
theorem takeS {α : Type} (l : List α) (n : Nat) (h : l.length = n) : l.take n = l := List.take_of_length_le (by omega)
theorem w64E : wrap64 (0 + 1) = 1 ∧ wrap64 (1 + 1) = 2 ∧ wrap64 (2 + 1) = 3 ∧ wrap64 (3 + 1) = 4 ∧ wrap64 (4 + 1) = 5 ∧ wrap64 (5 + 1) = 6 ∧ wrap64 (6 + 1) = 7 := by refine ⟨?_, ?_, ?_, ?_, ?_, ?_, ?_⟩ <;> (unfold wrap64; omega)
theorem beqI (a b : Int) : (a == b) = decide (a = b) := by rw [Bool.eq_iff_iff]; simp
theorem bneB (a b : Bool) : (a != b) = !(a == b) := rfl
theorem takeLi {α : Type} (l : List α) {i : Int} (h0 : decide (0 ≤ i) = true) (h1 : decide (i ≤ (l.length : Int)) = true) : (l.take i.toNat).length = i.toNat := by
  have h0 := of_decide_eq_true h0
  have h1 := of_decide_eq_true h1
  simp; omega
theorem bneD (a b : List UInt8) : (a != b) = !decide (a = b) := by rw [bne]; congr 1; rw [Bool.eq_iff_iff]; simp
theorem bneI (a b : Int) : (a != b) = !decide (a = b) := by rw [bne, beqI]
theorem catA : (∀ (l : List UInt8) (b : ByteArray), decide ((l.toArray.size : Int) + (b.size : Int) ≤ 9223372036854775807) = decide (l.length + b.size ≤ 9223372036854775807)) ∧ (∀ (l : List UInt8) (b : ByteArray), decide ((b.size : Int) + (l.toArray.size : Int) ≤ 9223372036854775807) = decide (b.size + l.length ≤ 9223372036854775807)) :=
  ⟨fun l b => by congr 1; rw [eq_iff_iff]; simp only [List.size_toArray]; omega, fun l b => by congr 1; rw [eq_iff_iff]; simp only [List.size_toArray]; omega⟩
theorem tlE : (∀ l : List UInt8, (ByteArray.mk (List.toArray l)).toList = l) ∧ (∀ l : List UInt8, (ByteArray.mk (Array.mk l)).toList = l) := ⟨fun l => by rw [ByteArray.toList_eq], fun l => by rw [ByteArray.toList_eq]⟩
theorem rdN : (∀ l : List Int, l.getD 0 0 = rd l 0) ∧ (∀ l : List Int, l.getD 1 0 = rd l 1) ∧ (∀ l : List Int, l.getD 9 0 = rd l 9) := ⟨fun _ => rfl, fun _ => rfl, fun _ => rfl⟩
theorem getI0 {k : IntKind} {l : List Int} (h1 : decide ((0 : Int) < (l.length : Int)) = true) : (l.map (AV.int k)).getD 0 .dead = .int k (rd l 0) := getI (i := 0) rfl h1
theorem getI1 {k : IntKind} {l : List Int} (h1 : decide ((1 : Int) < (l.length : Int)) = true) : (l.map (AV.int k)).getD 1 .dead = .int k (rd l 1) := getI (i := 1) rfl h1
theorem cpyL1 {α : Type} (xs ys : List α) (h1 : decide ((1 : Int) ≤ (xs.length : Int)) = true) : (cpy xs 1 ys).length = xs.length := cpyLi (i := 1) xs ys rfl h1
theorem catE (a b : ByteArray) : decide ((a.size : Int) + (b.size : Int) ≤ 9223372036854775807) = decide (a.size + b.size ≤ 9223372036854775807) := by
  congr 1; rw [eq_iff_iff]; omega
theorem szE : (∀ l : List UInt8, (ByteArray.mk (Array.mk l)).size = l.length) ∧ (∀ l : List UInt8, (ByteArray.mk (List.toArray l)).size = l.length) := ⟨fun _ => rfl, fun _ => rfl⟩
theorem m8 : (∀ a : Int, a % 256 % 4294967296 = a % 256) ∧ (∀ a : Int, IntKind.u64.wrap (a % 256) = a % 256) ∧ (∀ a : Int, wrap64 (a % 256) = a % 256) ∧ IntKind.u64.wrap 0 = 0 ∧ (∀ a b : Int, (a + b % 256) % 256 = (a + b) % 256) ∧ (∀ a b : Int, (a % 256 + b) % 256 = (a + b) % 256) :=
  ⟨fun a => by omega, fun a => by
    have e : (2 : Int) ^ IntKind.u64.bits = 18446744073709551616 := rfl
    simp only [IntKind.wrap, IntKind.signed, Bool.false_and, Bool.false_eq_true, if_false, reduceIte, e]; omega, fun a => by unfold wrap64; omega, rfl, fun a b => by omega, fun a b => by omega⟩
theorem takeD : (∀ {α : Type} (l : List α) (n : Nat), (l.drop n).take ((l.length : Int).toNat - n) = l.drop n) ∧ (∀ {α : Type} (l : List α) (n : Nat), (l.drop n).take (l.length - n) = l.drop n) :=
  ⟨fun l n => List.take_of_length_le (by simp), fun l n => List.take_of_length_le (by simp)⟩
theorem bytesV_map : ∀ l : List Int, bytesV (l.map (AV.int .u8)) = some (l.map fun n => UInt8.ofNat n.toNat)
  | [] => rfl
  | a :: l => by
    have h := bytesV_map l
    unfold bytesV at *
    simp only [List.map_cons, List.mapM_cons, h]; rfl
theorem strOne : (∀ n : Int, ByteArray.mk (List.toArray (List.reverse [UInt8.ofNat n.toNat])) = strOfNums [n]) ∧ (∀ n : Int, ByteArray.mk (List.toArray [UInt8.ofNat n.toNat]) = strOfNums [n]) ∧ (∀ n : Int, ByteArray.mk (Array.mk [UInt8.ofNat n.toNat]) = strOfNums [n]) := ⟨fun _ => rfl, fun _ => rfl, fun _ => rfl⟩
theorem szS : (∀ a b : ByteArray, (a ++ b).size = a.size + b.size) ∧ (∀ l : List UInt8, (ByteArray.mk l.toArray).size = l.length) ∧ (∀ l : List Int, (strOfNums l).size = l.length) := ⟨fun _ _ => ByteArray.size_append, fun _ => by simp [ByteArray.size], fun l => by simp [strOfNums, ByteArray.size]⟩
theorem catN (a b : Nat) : decide ((a : Int) + (b : Int) ≤ 9223372036854775807) = decide (a + b ≤ 9223372036854775807) := by rw [decide_eq_decide]; omega
theorem bytesE (s : ByteArray) : bytesL s = (btes s).map (AV.int .u8) := by simp [bytesL, btes]
theorem numsE (s : ByteArray) : (btes s).length = s.size := by simp [btes]
theorem cpS : (∀ (s : ByteArray) (n : Nat) (d : Int), cpl ((List.replicate n d).map (AV.int .u8)) 0 (min s.size n) ((btes s).map (AV.int .u8)) = (cpy (List.replicate n d) 0 (btes s)).map (AV.int .u8)) ∧ (∀ (s t : ByteArray) (n : Nat) (d : Int), cpl ((List.replicate n d).map (AV.int .u8)) 0 (min (s.size + t.size) n) ((btes (s ++ t)).map (AV.int .u8)) = (cpy (List.replicate n d) 0 (btes (s ++ t))).map (AV.int .u8)) :=
  ⟨fun s n d => cpl_0 _ _ (btes s) _ (by simp [numsE]), fun s t n d => cpl_0 _ _ (btes (s ++ t)) _ (by simp [numsE, ByteArray.size_append])⟩
theorem szX (s : ByteArray) (a n : Nat) : (s.extract a ((n : Int)).toNat).size = (s.extract a n).size := rfl
theorem one0 : (decide (((1 : Nat) : Int) = 0) = false) ∧ ((((1 : Nat) : Int) = 0) = False) := ⟨rfl, by simp⟩
theorem strE : (∀ l : List Int, bytesV (l.map (AV.int .u8)) = some (l.map fun n => UInt8.ofNat n.toNat)) ∧ (∀ l : List Int, (ByteArray.mk (l.map fun n => UInt8.ofNat n.toNat).toArray) = strOfNums l) :=
  ⟨bytesV_map, fun _ => rfl⟩
theorem beqB : (∀ b : Bool, (true == b) = b) ∧ (∀ b : Bool, (false == b) = !b) ∧ (∀ b : Bool, (b == true) = b) ∧ (∀ b : Bool, (b == false) = !b) := by decide
theorem beqD (a b : List UInt8) : (a == b) = decide (a = b) := by rw [Bool.eq_iff_iff]; simp
structure Kp (p : Prop) : Prop where
  out : p
theorem Hid.mk {p : Prop} (h : p) : Hid p := h
def frh (H : Nat → Option Row) (b : Nat) : List Row → Prop
  | [] => True
  | _ :: rs => H b = none ∧ frh H (b + 1) rs
theorem frh_get {H : Nat → Option Row} : ∀ {l : List Row} {b : Nat}, frh H b l → ∀ j, j < l.length → H (b + j) = none
  | [], b, _, j, h => by simp at h
  | r :: l, b, h, j, hj => by
    cases j with
    | zero => exact h.1
    | succ j => have := frh_get h.2 j (by simpa using hj); rwa [show b + (j + 1) = b + 1 + j by omega]
def clR : List Row → Prop
  | [] => True
  | r :: rs => ClosedRow r ∧ clR rs
theorem clR_get : ∀ {l : List Row}, clR l → ∀ r ∈ l, ClosedRow r
  | [], _, r, h => by simp at h
  | q :: l, h, r, hr => by
    rcases List.mem_cons.1 hr with rfl | hr
    · exact h.1
    · exact clR_get h.2 r hr
theorem closed_ints (e s : Nat) (z : AV) (k : IntKind) (l : List Int) : ClosedRow ⟨e, s, z, l.map (AV.int k)⟩ := fun x hx => by obtain ⟨n, _, rfl⟩ := List.mem_map.1 hx; rfl
def tgs (env : Nat → AV) : List Nat → List Nat
  | [] => []
  | t :: ts => (match env t with | .own u _ _ => u | .optr u _ _ => u | _ => 0) :: tgs env ts
def rts : List AV → List Nat
  | [] => []
  | .own u _ _ :: l => u :: rts l
  | _ :: l => rts l
section
variable {R T : Type} {M : Pm} {J : R → Out} {G G1 G2 : Option R} {k : List Item} {env : Nat → AV} {H : Nat → Option Row} {fr : Nat → Bool} {ρ : Rs} {ops : Array Oper} {idx : List Nat} {md : Option (Option Nat)} {i d : Nat} {op : Op} {ty : TypeId} {pos : String} {af : Array Edge}
theorem gS {todo : List Item} {s : St} (h : Sim M J G todo s) : Sim M J G todo s := h
theorem gO {s : St} (h : SimB md M J ops G idx k s) : SimB md M J ops G idx k s := h
theorem sGb {b : Bool} {todo : List Item} {s : St} (h : Sim M J (if b = true then G1 else G2) todo s) : Sim M J (if b = true then G1 else G2) todo s := h
theorem sGi {c : Prop} [Decidable c] {todo : List Item} {s : St} (h : Sim M J (if c then G1 else G2) todo s) : Sim M J (if c then G1 else G2) todo s := h
theorem oGb {b : Bool} {s : St} (h : SimB md M J ops (if b = true then G1 else G2) idx k s) : SimB md M J ops (if b = true then G1 else G2) idx k s := h
theorem oGi {c : Prop} [Decidable c] {s : St} (h : SimB md M J ops (if c then G1 else G2) idx k s) : SimB md M J ops (if c then G1 else G2) idx k s := h
theorem sBd {p : Bool} {c : Prop} [Decidable c] {todo : List Item} {s : St} (h1 : p = true → decide c = true → Sim M J G1 todo s) (h2 : p = false → decide c = false → Sim M J G1 todo s) (h3 : p = true → decide c = false → Sim M J G2 todo s) (h4 : p = false → decide c = true → Sim M J G2 todo s) : Sim M J (if (p == decide c) = true then G1 else G2) todo s := by
  by_cases hp : p = true
  · by_cases hc : c
    · rw [if_pos (by simp [hp, hc])]; exact h1 hp (decide_eq_true hc)
    · rw [if_neg (by simp [hp, hc])]; exact h3 hp (decide_eq_false hc)
  · have hp := Bool.eq_false_iff.2 hp
    by_cases hc : c
    · rw [if_neg (by simp [hp, hc])]; exact h4 hp (decide_eq_true hc)
    · rw [if_pos (by simp [hp, hc])]; exact h2 hp (decide_eq_false hc)
theorem oBd {p : Bool} {c : Prop} [Decidable c] {s : St} (h1 : p = true → decide c = true → SimB md M J ops G1 idx k s) (h2 : p = false → decide c = false → SimB md M J ops G1 idx k s) (h3 : p = true → decide c = false → SimB md M J ops G2 idx k s) (h4 : p = false → decide c = true → SimB md M J ops G2 idx k s) : SimB md M J ops (if (p == decide c) = true then G1 else G2) idx k s := by
  by_cases hp : p = true
  · by_cases hc : c
    · rw [if_pos (by simp [hp, hc])]; exact h1 hp (decide_eq_true hc)
    · rw [if_neg (by simp [hp, hc])]; exact h3 hp (decide_eq_false hc)
  · have hp := Bool.eq_false_iff.2 hp
    by_cases hc : c
    · rw [if_neg (by simp [hp, hc])]; exact h4 hp (decide_eq_true hc)
    · rw [if_pos (by simp [hp, hc])]; exact h2 hp (decide_eq_false hc)
theorem sEq {todo : List Item} {s : St} (e : G1 = G2) (h : Sim M J G2 todo s) : Sim M J G1 todo s := by rw [e]; exact h
theorem gC {A : Option T} {F : T → Option R} {s : St} (h : SimB md M J ops (A.bind F) idx k s) : SimB md M J ops (A.bind F) idx k s := h
theorem gL {s s' : St} (h : LeM M s s') : LeM M s s' := h
theorem sI {c : Prop} [Decidable c] {todo : List Item} {s : St} {d : Bool} (h1 : d = true → Hid c → Sim M J G1 todo s) (h2 : d = false → Hid (¬ c) → Sim M J G2 todo s) (e : decide c = d := by first | (simp only [tlE, List.length_replicate, List.length_set, List.length_map, cpyL, szS, List.size_toArray, List.length_cons, List.length_nil, Nat.zero_add, Nat.reduceAdd, Nat.reduceLeDiff]; rfl) | rfl) : Sim M J (if c then G1 else G2) todo s :=
  sim_ite (fun h => h1 (e ▸ decide_eq_true h) h) (fun h => h2 (e ▸ decide_eq_false h) h)
theorem sIb {b d : Bool} {todo : List Item} {s : St} (h1 : d = true → Sim M J G1 todo s) (h2 : d = false → Sim M J G2 todo s) (e : b = d := by first | (simp only [beqD, beqI, bneI, bneD, bneB]; rfl) | rfl) : Sim M J (if b = true then G1 else G2) todo s :=
  sim_ite (fun h => h1 (e ▸ h)) (fun h => h2 (e ▸ (by simpa using h)))
theorem oI {c : Prop} [Decidable c] {s : St} {d : Bool} (h1 : d = true → Hid c → SimB md M J ops G1 idx k s) (h2 : d = false → Hid (¬ c) → SimB md M J ops G2 idx k s) (e : decide c = d := by first | (simp only [tlE, List.length_replicate, List.length_set, List.length_map, cpyL, szS, List.size_toArray, List.length_cons, List.length_nil, Nat.zero_add, Nat.reduceAdd, Nat.reduceLeDiff]; rfl) | rfl) : SimB md M J ops (if c then G1 else G2) idx k s :=
  simB_ite (fun h => h1 (e ▸ decide_eq_true h) h) (fun h => h2 (e ▸ decide_eq_false h) h)
theorem sTb {b : Bool} {todo : List Item} {s : St} (hb : b = true := by first | (simp only [Bool.not_true, Bool.not_false, decide_true, decide_false, *]; done) | fail) (h : Sim M J G1 todo s) : Sim M J (if b = true then G1 else G2) todo s := by rw [if_pos hb]; exact h
theorem sFb {b : Bool} {todo : List Item} {s : St} (hb : b = false := by first | (simp only [Bool.not_true, Bool.not_false, decide_true, decide_false, *]; done) | fail) (h : Sim M J G2 todo s) : Sim M J (if b = true then G1 else G2) todo s := by rw [if_neg (by simp [hb])]; exact h
theorem sTe {x y : Int} {todo : List Item} {s : St} (hb : decide (x = y) = true := by first | (simp only [Bool.not_true, Bool.not_false, decide_true, decide_false, *]; done) | fail) (h : Sim M J G1 todo s) : Sim M J (if (x == y) = true then G1 else G2) todo s := by rw [beqI, if_pos hb]; exact h
theorem sFd {x y : Int} {todo : List Item} {s : St} (hb : decide (x = y) = false := by first | (simp only [Bool.not_true, Bool.not_false, decide_true, decide_false, *]; done) | fail) (h : Sim M J G2 todo s) : Sim M J (if (x == y) = true then G1 else G2) todo s := by rw [beqI, if_neg (by simp [hb])]; exact h
theorem sT {c : Prop} [Decidable c] {todo : List Item} {s : St} (hb : decide c = true := by first | (simp only [Bool.not_true, Bool.not_false, decide_true, decide_false, *]; done) | fail) (h : Sim M J G1 todo s) : Sim M J (if c then G1 else G2) todo s := by rw [if_pos (of_decide_eq_true hb)]; exact h
theorem sF' {c : Prop} [Decidable c] {todo : List Item} {s : St} (hb : decide c = false := by first | (simp only [Bool.not_true, Bool.not_false, decide_true, decide_false, *]; done) | fail) (h : Sim M J G2 todo s) : Sim M J (if c then G1 else G2) todo s := by rw [if_neg (of_decide_eq_false hb)]; exact h
theorem sIn {x : Bool} {todo : List Item} {s : St} (h1 : x = false → Sim M J G1 todo s) (h2 : x = true → Sim M J G2 todo s) : Sim M J (if (!x) = true then G1 else G2) todo s := sim_ite (fun h => h1 (by simpa using h)) (fun h => h2 (by simpa using h))
theorem oTb {b : Bool} {s : St} (hb : b = true := by first | (simp only [Bool.not_true, Bool.not_false, decide_true, decide_false, *]; done) | fail) (h : SimB md M J ops G1 idx k s) : SimB md M J ops (if b = true then G1 else G2) idx k s := by rw [if_pos hb]; exact h
theorem oFb {b : Bool} {s : St} (hb : b = false := by first | (simp only [Bool.not_true, Bool.not_false, decide_true, decide_false, *]; done) | fail) (h : SimB md M J ops G2 idx k s) : SimB md M J ops (if b = true then G1 else G2) idx k s := by rw [if_neg (by simp [hb])]; exact h
theorem oTe {x y : Int} {s : St} (hb : decide (x = y) = true := by first | (simp only [Bool.not_true, Bool.not_false, decide_true, decide_false, *]; done) | fail) (h : SimB md M J ops G1 idx k s) : SimB md M J ops (if (x == y) = true then G1 else G2) idx k s := by rw [beqI, if_pos hb]; exact h
theorem oFd {x y : Int} {s : St} (hb : decide (x = y) = false := by first | (simp only [Bool.not_true, Bool.not_false, decide_true, decide_false, *]; done) | fail) (h : SimB md M J ops G2 idx k s) : SimB md M J ops (if (x == y) = true then G1 else G2) idx k s := by rw [beqI, if_neg (by simp [hb])]; exact h
theorem oT {c : Prop} [Decidable c] {s : St} (hb : decide c = true := by first | (simp only [Bool.not_true, Bool.not_false, decide_true, decide_false, *]; done) | fail) (h : SimB md M J ops G1 idx k s) : SimB md M J ops (if c then G1 else G2) idx k s := by rw [if_pos (of_decide_eq_true hb)]; exact h
theorem oF' {c : Prop} [Decidable c] {s : St} (hb : decide c = false := by first | (simp only [Bool.not_true, Bool.not_false, decide_true, decide_false, *]; done) | fail) (h : SimB md M J ops G2 idx k s) : SimB md M J ops (if c then G1 else G2) idx k s := by rw [if_neg (of_decide_eq_false hb)]; exact h
theorem oIn {x : Bool} {s : St} (h1 : x = false → SimB md M J ops G1 idx k s) (h2 : x = true → SimB md M J ops G2 idx k s) : SimB md M J ops (if (!x) = true then G1 else G2) idx k s := simB_ite (fun h => h1 (by simpa using h)) (fun h => h2 (by simpa using h))
theorem oIb {b d : Bool} {s : St} (h1 : d = true → SimB md M J ops G1 idx k s) (h2 : d = false → SimB md M J ops G2 idx k s) (e : b = d := by first | (simp only [beqD, beqI, bneI, bneD, bneB]; rfl) | rfl) : SimB md M J ops (if b = true then G1 else G2) idx k s :=
  simB_ite (fun h => h1 (e ▸ h)) (fun h => h2 (e ▸ (by simpa using h)))
theorem oV {x : AV} (ho : ops[i]? = some ⟨some d, op, ty, pos, af, none⟩ := by rfl)
    (ha : act M.P M.N M.G ⟨env, H, fr, ρ⟩ d op = some ⟨x, [], [], [], none⟩ := by simp only [go_sem, *]; rfl)
    (h : SimB md M J ops G idx k ⟨upd env d x, H, fr, ρ⟩) : SimB md M J ops G (i :: idx) k ⟨env, H, fr, ρ⟩ := simB_val ho ha h
theorem oN {x : AV} {nw : List Row} {w : List (Nat × Row)} {fz : List Nat} {H' : Nat → Option Row} {fr' : Nat → Bool} (ho : ops[i]? = some ⟨some d, op, ty, pos, af, none⟩ := by rfl)
    (ha : act M.P M.N M.G ⟨env, H, fr, ρ⟩ d op = some ⟨x, nw, w, fz, none⟩ := by simp only [go_sem, *]; rfl)
    (hH : newH (putW H w) (tg d 0) nw = H' := by simp only [rwE, Nat.reduceAdd, Nat.reduceMul]; rfl) (hf : newF (frz fr fz) (tg d 0) nw = fr' := by simp only [rwE, Nat.reduceAdd, Nat.reduceMul]; rfl)
    (h : SimB md M J ops G idx k ⟨upd env d x, H', fr', ρ⟩) : SimB md M J ops G (i :: idx) k ⟨env, H, fr, ρ⟩ := simB_new ho ha hH hf h
theorem oS {x : AV} {w : List (Nat × Row)} {fz : List Nat} {H' : Nat → Option Row} {fr' : Nat → Bool} (ho : ops[i]? = some ⟨none, op, ty, pos, af, none⟩ := by rfl)
    (ha : act M.P M.N M.G ⟨env, H, fr, ρ⟩ 0 op = some ⟨x, [], w, fz, none⟩ := by simp only [go_sem, *]; rfl)
    (hH : putW H w = H' := by simp only [rwE]; rfl) (hf : frz fr fz = fr' := by simp only [rwE]; rfl) (h : SimB md M J ops G idx k ⟨env, H', fr', ρ⟩) : SimB md M J ops G (i :: idx) k ⟨env, H, fr, ρ⟩ := simB_st ho ha hH hf h
theorem oVg {x : AV} {j g : Nat} {want b : Bool} (ho : ops[i]? = some ⟨some d, op, ty, pos, af, some (j, want)⟩ := by rfl) (hd : (ops[j]?).bind (·.dst) = some g := by rfl) (hN : g < M.N := by exact Nat.le_of_ble_eq_true rfl)
    (he : env g = .bool b := by simp only [go_sem, *]; rfl) (hb : b = want := by first | rfl | (simp only [go_sem, *]; done) | (simp only [go_sem, *]; rfl)) (ha : act M.P M.N M.G ⟨env, H, fr, ρ⟩ d op = some ⟨x, [], [], [], none⟩ := by simp only [go_sem, *]; rfl)
    (h : SimB md M J ops G idx k ⟨upd env d x, H, fr, ρ⟩) : SimB md M J ops G (i :: idx) k ⟨env, H, fr, ρ⟩ := simB_valG ho hd hN he hb ha h
theorem oNg {x : AV} {nw : List Row} {w : List (Nat × Row)} {fz : List Nat} {H' : Nat → Option Row} {fr' : Nat → Bool} {j g : Nat} {want b : Bool} (ho : ops[i]? = some ⟨some d, op, ty, pos, af, some (j, want)⟩ := by rfl) (hd : (ops[j]?).bind (·.dst) = some g := by rfl) (hN : g < M.N := by exact Nat.le_of_ble_eq_true rfl)
    (he : env g = .bool b := by simp only [go_sem, *]; rfl) (hb : b = want := by first | rfl | (simp only [go_sem, *]; done) | (simp only [go_sem, *]; rfl)) (ha : act M.P M.N M.G ⟨env, H, fr, ρ⟩ d op = some ⟨x, nw, w, fz, none⟩ := by simp only [go_sem, *]; rfl)
    (hH : newH (putW H w) (tg d 0) nw = H' := by simp only [rwE, Nat.reduceAdd, Nat.reduceMul]; rfl) (hf : newF (frz fr fz) (tg d 0) nw = fr' := by simp only [rwE, Nat.reduceAdd, Nat.reduceMul]; rfl)
    (h : SimB md M J ops G idx k ⟨upd env d x, H', fr', ρ⟩) : SimB md M J ops G (i :: idx) k ⟨env, H, fr, ρ⟩ := simB_newG ho hd hN he hb ha hH hf h
theorem oKg {j g : Nat} {want b : Bool} (ho : ops[i]? = some ⟨some d, op, ty, pos, af, some (j, want)⟩ := by rfl) (hd : (ops[j]?).bind (·.dst) = some g := by rfl) (hN : g < M.N := by exact Nat.le_of_ble_eq_true rfl)
    (he : env g = .bool b := by simp only [go_sem, *]; rfl) (hb : b = !want := by first | rfl | (simp only [go_sem, *]; done) | (simp only [go_sem, *]; rfl))
    (h : SimB md M J ops G idx k ⟨upd env d .undef, H, fr, ρ⟩) : SimB md M J ops G (i :: idx) k ⟨env, H, fr, ρ⟩ := simB_skipG ho hd hN he hb h
theorem oKu {j g : Nat} {want : Bool} (ho : ops[i]? = some ⟨some d, op, ty, pos, af, some (j, want)⟩ := by rfl) (hd : (ops[j]?).bind (·.dst) = some g := by rfl) (hN : g < M.N := by exact Nat.le_of_ble_eq_true rfl) (he : env g = .undef := by first | rfl | (simp only [go_sem, *]; done) | (simp only [go_sem, *]; rfl))
    (h : SimB md M J ops G idx k ⟨upd env d .undef, H, fr, ρ⟩) : SimB md M J ops G (i :: idx) k ⟨env, H, fr, ρ⟩ := simB_skipU ho hd hN he h
theorem oA {x y : Operand} {t : TypeId} {env' : Nat → AV} {H' : Nat → Option Row} {fr' : Nat → Bool} (ho : ops[i]? = some ⟨some d, .call ⟨.builtin .append, #[x, y], #[t, t]⟩, ty, pos, af, none⟩ := by rfl)
    (ha : apA M.P ⟨env, H, fr, ρ⟩ d t (ev M.N M.G env x) (ev M.N M.G env y) = some ⟨env', H', fr', ρ⟩ := by simp only [go_sem, *]; rfl) (h : SimB md M J ops G idx k ⟨env', H', fr', ρ⟩) : SimB md M J ops G (i :: idx) k ⟨env, H, fr, ρ⟩ := simB_app' (t' := t) ho ha h
theorem tgs_has {M : Pm} {env : Nat → AV} {args : Array Operand} {aw τ : List Nat} (h : (aw.filterMap fun a => (args.toList.map (ev M.N M.G env))[a]?).flatMap tgA = τ) : ∀ t ∈ τ, ∃ x ∈ args.toList, Has t (ev M.N M.G env x) := by
  subst h
  intro t ht
  obtain ⟨y, hy, ht⟩ := List.mem_flatMap.1 ht
  obtain ⟨a, _, ha⟩ := List.mem_filterMap.1 hy
  rw [List.getElem?_map] at ha
  cases hq : args.toList[a]? with
  | none => rw [hq] at ha; cases ha
  | some x => rw [hq] at ha; obtain rfl := Option.some.inj ha; exact ⟨x, List.mem_of_getElem? hq, tgA_has ht⟩
theorem sUn {c : Code} {s : St} (h : Sim M J G (.code c :: .inLoop c :: k) s) : Sim M J G (.code (.loop c) :: k) s := sim_un h
theorem sKp {todo : List Item} (qs : List Nat) {L : List (Nat × AV)} (hL : (qs.map fun q => (q, env q)) = L := by simp only [List.map_cons, List.map_nil, go_sem, *]; rfl) (h : Sim M J G todo ⟨envL L, H, fr, ρ⟩) : Sim M J G todo ⟨env, H, fr, ρ⟩ := by subst hL; exact sim_keep qs h
theorem sUk {c : Code} (qs : List Nat) {L : List (Nat × AV)} (hL : (qs.map fun q => (q, env q)) = L := by simp only [List.map_cons, List.map_nil, go_sem, *]; rfl) (h : Sim M J G (.code c :: .inLoop c :: k) ⟨envL L, H, fr, ρ⟩) : Sim M J G (.inLoop c :: k) ⟨env, H, fr, ρ⟩ := sKp qs hL (sim_un2 h)
theorem oNil {s : St} (hm : md = none ∨ md = some none := by first | exact .inl rfl | exact .inr rfl) (h : Sim M J G k s) : SimB md M J ops G [] k s := simB_nil h hm
theorem oLast {n : Nat} {s : St} (h : SimB none M J ops G [n] k s) : SimB (some (some n)) M J ops G [] k s := simB_last h
theorem sDl {id n : Nat} {l : List Nat} (hm : M.P.follows .mixedOrders = true) (hsz : n + 1 = ops.size := by rfl) (hD : drawOKn M.P ops (fun _ _ => false) n = true := by kernel_rfl) (hl : (List.range n).all (dirE ops n) = true := by kernel_rfl) (ha : (match ops[n]? with | some o => o.after.all (fun e => !Region.binds .any e || decide (e.on < n)) | none => true) = true := by kernel_rfl)
    (hr : List.range n = l := by rfl) (h : SimB (some (some n)) M J ops G l k ⟨env, H, fr, ρ⟩) : Sim M J G (.code (.region id ops true) :: k) ⟨env, H, fr, ρ⟩ := by subst hr; exact sim_drawLast hm hsz hD hl ha h
theorem oC {f : Nat} {args : Array Operand} {tys : Array TypeId} {avs cargs cargs' : List AV} {res : T → AV} {outs : T → List Row} {A : Option T} {F : T → Option R} {lt : List Nat} {fr' : Nat → Bool} {X : T → AV} {H' : T → Nat → Option Row} {fr2 : T → Nat → Bool} (cl : Bool)
    (hh : ∀ t, A = some t → Holds M.P M.G f [] cargs' (res t) (outs t))
    (ho : ops[i]? = some ⟨some d, .call ⟨.value (.func f), args, tys⟩, ty, pos, af, none⟩ := by rfl) (hav : args.toList.map (ev M.N M.G env) = avs := by simp only [go_sem, *]; rfl)
    (hc : convL [] H avs = some cargs := by simp only [convL, conv, go_sem, *]; rfl) (hle : leAL cargs cargs' := by first | exact leAL_refl _ | (simp only [leAL, leA, leL, leS, List.map_nil, List.map_cons, and_true, true_and, go_sem, *]; done) | fail)
    (hcl : cl = true → ∀ t, closedR (res t) = true ∧ clR (outs t) := by intro h t; first | exact (Bool.false_ne_true h).elim | (simp [closedR, closedA, closedAL, closedL, closed, clR, closed_ints]; done) | fail)
    (hlt : (if cl = true then [] else lentT [] avs) = lt := by simp only [lentT, go_sem, *, Bool.false_eq_true, List.filter_nil, List.filter_cons]; rfl) (htag : tagOk lt = true := by rfl) (hf : frz fr lt = fr' := by simp only [rwE]; rfl)
    (hl : ∀ t, (outs t).length ≤ 16 := by intro t; first | (simp; done) | fail) (hn : ∀ t, frh H (tg d 0) (outs t) := by intro t; first | (simp only [frh, go_sem, *, and_true, true_and]; done) | fail)
    (hX : ∀ t, renV [] d (res t) = X t := by intro t; simp only [renV, renA, renS, renT, List.length_nil, go_sem, *, Nat.not_lt_zero]; rfl)
    (hH : ∀ t, newH H (tg d 0) (outs t) = H' t := by intro t; simp only [rwE, Nat.reduceAdd, Nat.reduceMul]; rfl) (hF : ∀ t, newF fr' (tg d 0) (outs t) = fr2 t := by intro t; simp only [rwE, Nat.reduceAdd, Nat.reduceMul]; rfl)
    (h : ∀ t, SimB md M J ops (F t) idx k ⟨upd env d (X t), H' t, fr2 t, ρ⟩) : SimB md M J ops (A.bind F) (i :: idx) k ⟨env, H, fr, ρ⟩ :=
  simB_call' cl hh ho hav hc hle (fun h t => ⟨(hcl h t).1, clR_get (hcl h t).2⟩) hlt htag hf (fun t => ⟨hl t, frh_get (hn t)⟩) (fun t => by rw [hX, hH, hF]; exact h t)
theorem oF {f q : Nat} {args : Array Operand} {tys : Array TypeId} {avs cargs cargs' : List AV} {res : T → AV} {outs : T → List Row} {A : Option T} {F : T → Option R} {lt : List Nat} {fr' : Nat → Bool} {X : T → AV} {H' : T → Nat → Option Row} {fr2 : T → Nat → Bool} (cl : Bool)
    (hh : ∀ t, A = some t → Holds M.P M.G f [] cargs' (res t) (outs t))
    (ho : ops[i]? = some ⟨some d, .call ⟨.value (.tmp q), args, tys⟩, ty, pos, af, none⟩ := by rfl) (hq : q < M.N := by exact Nat.le_of_ble_eq_true rfl) (hf' : env q = .fn f := by first | rfl | (simp only [go_sem, *]; done) | (simp only [go_sem, *]; rfl)) (hav : args.toList.map (ev M.N M.G env) = avs := by simp only [go_sem, *]; rfl)
    (hc : convL [] H avs = some cargs := by simp only [convL, conv, go_sem, *]; rfl) (hle : leAL cargs cargs' := by first | exact leAL_refl _ | (simp only [leAL, leA, leL, leS, List.map_nil, List.map_cons, and_true, true_and, go_sem, *]; done) | fail)
    (hcl : cl = true → ∀ t, closedR (res t) = true ∧ clR (outs t) := by intro h t; first | exact (Bool.false_ne_true h).elim | (simp [closedR, closedA, closedAL, closedL, closed, clR, closed_ints]; done) | fail)
    (hlt : (if cl = true then [] else lentT [] avs) = lt := by simp only [lentT, go_sem, *, Bool.false_eq_true, List.filter_nil, List.filter_cons]; rfl) (htag : tagOk lt = true := by rfl) (hf : frz fr lt = fr' := by simp only [rwE]; rfl)
    (hl : ∀ t, (outs t).length ≤ 16 := by intro t; first | (simp; done) | fail) (hn : ∀ t, frh H (tg d 0) (outs t) := by intro t; first | (simp only [frh, go_sem, *, and_true, true_and]; done) | fail)
    (hX : ∀ t, renV [] d (res t) = X t := by intro t; simp only [renV, renA, renS, renT, List.length_nil, go_sem, *, Nat.not_lt_zero]; rfl)
    (hH : ∀ t, newH H (tg d 0) (outs t) = H' t := by intro t; simp only [rwE, Nat.reduceAdd, Nat.reduceMul]; rfl) (hF : ∀ t, newF fr' (tg d 0) (outs t) = fr2 t := by intro t; simp only [rwE, Nat.reduceAdd, Nat.reduceMul]; rfl)
    (h : ∀ t, SimB none M J ops (F t) idx k ⟨upd env d (X t), H' t, fr2 t, ρ⟩) : SimB none M J ops (A.bind F) (i :: idx) k ⟨env, H, fr, ρ⟩ := by
  subst hav hlt hf
  refine simR_callF cl hh ho rfl hq hf' rfl rfl hc hle (fun h t => ⟨(hcl h t).1, clR_get (hcl h t).2⟩) ?_ (fun t => ⟨hl t, frh_get (hn t)⟩) (fun t => ?_)
  · cases cl
    · exact .inr (by simpa using htag)
    · exact .inl rfl
  · have := h t
    rw [← hX, ← hH, ← hF] at this
    exact this
theorem oCg {f : Nat} {args : Array Operand} {tys : Array TypeId} {avs cargs cargs' : List AV} {res : T → AV} {outs : T → List Row} {A : Option T} {F : T → Option R} {lt : List Nat} {fr' : Nat → Bool} {X : T → AV} {H' : T → Nat → Option Row} {fr2 : T → Nat → Bool} {j g : Nat} {want b : Bool} (cl : Bool)
    (hh : ∀ t, A = some t → Holds M.P M.G f [] cargs' (res t) (outs t))
    (ho : ops[i]? = some ⟨some d, .call ⟨.value (.func f), args, tys⟩, ty, pos, af, some (j, want)⟩ := by rfl) (hd : (ops[j]?).bind (·.dst) = some g := by rfl) (hN : g < M.N := by exact Nat.le_of_ble_eq_true rfl) (he : env g = .bool b := by simp only [go_sem, *]; rfl) (hb : b = want := by first | rfl | (simp only [go_sem, *]; done) | (simp only [go_sem, *]; rfl)) (hav : args.toList.map (ev M.N M.G env) = avs := by simp only [go_sem, *]; rfl)
    (hc : convL [] H avs = some cargs := by simp only [convL, conv, go_sem, *]; rfl) (hle : leAL cargs cargs' := by first | exact leAL_refl _ | (simp only [leAL, leA, leL, leS, List.map_nil, List.map_cons, and_true, true_and, go_sem, *]; done) | fail)
    (hcl : cl = true → ∀ t, closedR (res t) = true ∧ clR (outs t) := by intro h t; first | exact (Bool.false_ne_true h).elim | (simp [closedR, closedA, closedAL, closedL, closed, clR, closed_ints]; done) | fail)
    (hlt : (if cl = true then [] else lentT [] avs) = lt := by simp only [lentT, go_sem, *, Bool.false_eq_true, List.filter_nil, List.filter_cons]; rfl) (htag : tagOk lt = true := by rfl) (hf : frz fr lt = fr' := by simp only [rwE]; rfl)
    (hl : ∀ t, (outs t).length ≤ 16 := by intro t; first | (simp; done) | fail) (hn : ∀ t, frh H (tg d 0) (outs t) := by intro t; first | (simp only [frh, go_sem, *, and_true, true_and]; done) | fail)
    (hX : ∀ t, renV [] d (res t) = X t := by intro t; simp only [renV, renA, renS, renT, List.length_nil, go_sem, *, Nat.not_lt_zero]; rfl)
    (hH : ∀ t, newH H (tg d 0) (outs t) = H' t := by intro t; simp only [rwE, Nat.reduceAdd, Nat.reduceMul]; rfl) (hF : ∀ t, newF fr' (tg d 0) (outs t) = fr2 t := by intro t; simp only [rwE, Nat.reduceAdd, Nat.reduceMul]; rfl)
    (h : ∀ t, SimB md M J ops (F t) idx k ⟨upd env d (X t), H' t, fr2 t, ρ⟩) : SimB md M J ops (A.bind F) (i :: idx) k ⟨env, H, fr, ρ⟩ :=
  simB_callG cl hh ho hd hN he hb hav hc hle (fun h t => ⟨(hcl h t).1, clR_get (hcl h t).2⟩) hlt htag hf (fun t => ⟨hl t, frh_get (hn t)⟩) (fun t => by rw [hX, hH, hF]; exact h t)
theorem sY {c : Operand} {x y : Code} {t : Bool} (hc : ev M.N M.G env c = .bool t := by simp only [go_sem, *]; rfl) (ht : t = true := by first | rfl | (simp only [go_sem, *]; done) | (simp only [go_sem, *]; rfl)) (h : Sim M J G (.code x :: k) ⟨env, H, fr, ρ⟩) : Sim M J G (.code (.cond c x y) :: k) ⟨env, H, fr, ρ⟩ := sim_condY hc ht h
theorem sN {c : Operand} {x y : Code} {t : Bool} (hc : ev M.N M.G env c = .bool t := by simp only [go_sem, *]; rfl) (ht : t = false := by first | rfl | (simp only [go_sem, *]; done) | (simp only [go_sem, *]; rfl)) (h : Sim M J G (.code y :: k) ⟨env, H, fr, ρ⟩) : Sim M J G (.code (.cond c x y) :: k) ⟨env, H, fr, ρ⟩ := sim_condN hc ht h
theorem sX {id : Nat} {k' : List Item} {s : St} (hk : exitTo id k = some k' := by rfl) (h : Sim M J G k' s) : Sim M J G (.code (.exit id) :: k) s := sim_exit hk h
theorem sR {id : Nat} {l : List Nat} (hl : List.range ops.size = l := by rfl) (h : SimB none M J ops G l k ⟨env, H, fr, ρ⟩) : Sim M J G (.code (.region id ops false) :: k) ⟨env, H, fr, ρ⟩ := sim_reg hl h
theorem sD {id : Nat} {l : List Nat} (hm : M.P.follows .mixedOrders = true) (hD : drawOK M.P ops = true := by kernel_rfl) (hl : List.range ops.size = l := by rfl) (h : SimB (some none) M J ops G l k ⟨env, H, fr, ρ⟩) : Sim M J G (.code (.region id ops true) :: k) ⟨env, H, fr, ρ⟩ := by subst hl; exact sim_draw hm hD h
theorem oW {f : Nat} {args : Array Operand} {tys : Array TypeId} {avs cargs cargs' : List AV} {τ : List Nat} {ins : List Row} {res : T → AV} {outs : T → List Row} {A : Option T} {F : T → Option R} {lt : List Nat} {fr' : Nat → Bool} {X : T → AV} {H' : T → Nat → Option Row} {fr2 : T → Nat → Bool} (aw : List Nat) (cl : Bool)
    (hh : ∀ t, A = some t → Holds M.P M.G f ins cargs' (res t) (outs t))
    (ho : ops[i]? = some ⟨some d, .call ⟨.value (.func f), args, tys⟩, ty, pos, af, none⟩ := by rfl) (hav : args.toList.map (ev M.N M.G env) = avs := by simp only [go_sem, *]; rfl)
    (hτ0 : (aw.filterMap fun a => avs[a]?).flatMap tgA = τ := by simp only [tgA, List.filterMap_cons, List.filterMap_nil, go_sem, *]; rfl) (hw : isW M.P f = true := by kernel_rfl) (hτ : chkR ⟨env, H, fr, ρ⟩ τ ins := by first | (simp only [chkR, go_sem, *, and_true, true_and]; done) | fail) (hτn : τ.Nodup := by decide) (hag : aggFree τ avs = true := by rfl)
    (hc : convL τ H avs = some cargs := by simp only [convL, conv, List.idxOf_cons, List.contains_cons, List.contains_nil, beq_self_eq_true, Bool.or_false, Bool.true_or, go_sem, *]; rfl) (hle : leAL cargs cargs' := by first | exact leAL_refl _ | (simp only [leAL, leA, leL, leS, List.map_nil, List.map_cons, and_true, true_and, go_sem, *]; done) | fail)
    (hcl : cl = true → ∀ t, closedR (res t) = true ∧ clR (outs t) := by intro h t; first | exact (Bool.false_ne_true h).elim | (simp [closedR, closedA, closedAL, closedL, closed, clR, closed_ints]; done) | fail)
    (hlt : (if cl = true then [] else lentT τ avs) = lt := by simp only [lentT, go_sem, *, Bool.false_eq_true, List.filter_nil, List.filter_cons]; rfl) (htag : tagOk lt = true := by rfl) (hf : frz fr lt = fr' := by simp only [rwE]; rfl)
    (hl : ∀ t, (outs t).length - ins.length ≤ 16 := by intro t; first | (simp; done) | fail) (hn : ∀ t, frh H (tg d 0) ((outs t).drop ins.length) := by intro t; first | (simp only [frh, go_sem, *, and_true, true_and]; done) | fail)
    (hX : ∀ t, renV τ d (res t) = X t := by intro t; simp only [renV, renA, renS, renT, List.length_nil, go_sem, *, Nat.not_lt_zero]; rfl)
    (hH : ∀ t, newH (putW H (τ.zip (outs t))) (tg d 0) ((outs t).drop ins.length) = H' t := by intro t; simp only [List.zip_cons_cons, List.zip_nil_left, List.zip_nil_right, go_sem, *, Nat.reduceAdd, Nat.reduceMul]; rfl) (hF : ∀ t, newF fr' (tg d 0) ((outs t).drop ins.length) = fr2 t := by intro t; simp only [go_sem, *, Nat.reduceAdd, Nat.reduceMul]; rfl)
    (h : ∀ t, SimB md M J ops (F t) idx k ⟨upd env d (X t), H' t, fr2 t, ρ⟩) : SimB md M J ops (A.bind F) (i :: idx) k ⟨env, H, fr, ρ⟩ := by
  subst hav hlt hf
  refine simB_callW τ ins cl hh ho rfl rfl hw (tgs_has hτ0) rfl hτ hτn hc hle hag (fun h t => ⟨(hcl h t).1, clR_get (hcl h t).2⟩) ?_ (fun t => ⟨hl t, fun j hj => frh_get (hn t) j (by simpa using hj)⟩) (fun t => ?_)
  · cases cl
    · exact .inr (by simpa using htag)
    · exact .inl rfl
  · have := h t
    rw [← hX, ← hH, ← hF] at this
    exact this
theorem oX {f : Nat} {args : Array Operand} {tys : Array TypeId} {avs cargs cargs' : List AV} {τ : List Nat} {ins : List Row} {res : T → AV} {outs : T → List Row} {A : Option T} {F : T → Option R} {lt : List Nat} {fr' : Nat → Bool} {X : T → AV} {H' : T → Nat → Option Row} {fr2 : T → Nat → Bool} {x : Rs} {x' : T → Rs} (aw : List Nat)
    (hh : ∀ t, A = some t → HoldsX M.P M.G f ins cargs' [] x (res t) (outs t) (fun y => y = x' t)) (hx : x = ρ := by rfl) (hix : isX M.P f = true := by kernel_rfl) (hrd : ∀ t, (x' t).rd = ρ.rd := by intro t; rfl)
    (ho : ops[i]? = some ⟨some d, .call ⟨.value (.func f), args, tys⟩, ty, pos, af, none⟩ := by rfl) (hav : args.toList.map (ev M.N M.G env) = avs := by simp only [go_sem, *]; rfl)
    (hτ0 : (aw.filterMap fun a => avs[a]?).flatMap tgA = τ := by simp only [tgA, List.filterMap_cons, List.filterMap_nil, go_sem, *]; rfl) (hw : isW M.P f = true := by kernel_rfl) (hτ : chkR ⟨env, H, fr, ρ⟩ τ ins := by first | (simp only [chkR, go_sem, *, and_true, true_and]; done) | fail) (hτn : τ.Nodup := by decide) (hag : aggFree τ avs = true := by rfl)
    (hc : convL τ H avs = some cargs := by simp only [convL, conv, List.idxOf_cons, List.contains_cons, List.contains_nil, beq_self_eq_true, Bool.or_false, Bool.true_or, go_sem, *]; rfl) (hle : leAL cargs cargs' := by first | exact leAL_refl _ | (simp only [leAL, leA, leL, leS, List.map_nil, List.map_cons, and_true, true_and, go_sem, *]; done) | fail)
    (hlt : lentT τ avs = lt := by simp only [lentT, go_sem, *, Bool.false_eq_true, List.filter_nil, List.filter_cons]; rfl) (htag : tagOk lt = true := by rfl) (hf : frz fr lt = fr' := by simp only [rwE]; rfl)
    (hl : ∀ t, (outs t).length - ins.length ≤ 16 := by intro t; first | (simp; done) | fail) (hn : ∀ t, frh H (tg d 0) ((outs t).drop ins.length) := by intro t; first | (simp only [frh, go_sem, *, and_true, true_and]; done) | fail)
    (hX : ∀ t, renV τ d (res t) = X t := by intro t; simp only [renV, renA, renS, renT, List.length_nil, go_sem, *, Nat.not_lt_zero]; rfl)
    (hH : ∀ t, newH (putW H (τ.zip (outs t))) (tg d 0) ((outs t).drop ins.length) = H' t := by intro t; simp only [List.zip_cons_cons, List.zip_nil_left, List.zip_nil_right, go_sem, *, Nat.reduceAdd, Nat.reduceMul]; rfl) (hF : ∀ t, newF fr' (tg d 0) ((outs t).drop ins.length) = fr2 t := by intro t; simp only [go_sem, *, Nat.reduceAdd, Nat.reduceMul]; rfl)
    (h : ∀ t, SimB md M J ops (F t) idx k ⟨upd env d (X t), H' t, fr2 t, x' t⟩) : SimB md M J ops (A.bind F) (i :: idx) k ⟨env, H, fr, ρ⟩ := by
  subst hav hlt hf hx
  refine simB_callX τ ins false (xs := fun t => some (x' t)) hh (.inr ⟨rfl, rfl, hix, fun t => ⟨rfl, hrd t⟩⟩) ho rfl rfl (.inr ⟨hw, tgs_has hτ0⟩) rfl hτ hτn hc hle hag (fun h => by cases h) (.inr htag) (fun t => ⟨hl t, fun j hj => frh_get (hn t) j (by simpa using hj)⟩) (fun t => ?_)
  have e : (⟨env, H, fr, x⟩ : St).app (some d) { val := renV τ d (res t), new := (outs t).drop ins.length, wr := τ.zip (outs t), fz := lentT τ (args.toList.map (ev M.N M.G env)), xs := some (x' t) } = ⟨upd env d (X t), H' t, fr2 t, x' t⟩ := by
    rw [← hX, ← hH, ← hF]; rfl
  have h' := h t
  rw [← e] at h'
  exact h'
theorem sF (π : List Nat) (b : Bool) {τ : List Nat} {q p : AV} {v : R} (hr : ∀ E : Fx, EOk M E → resV E.X ⟨env, H, fr, ρ⟩ M.rs = some q := by intro E hE; simp only [resV, resL, resV1, hE.n, hE.p, go_sem, *]; rfl) (hτ : π ++ (cond b (rts (comps q)) []) = τ := by simp only [rts, comps, go_sem, *]; rfl) (hc : chkR ⟨env, H, fr, ρ⟩ τ (J v).2 := by first | (simp only [chkR, go_sem, *, and_true, true_and]; done) | fail)
    (hcv : convR τ H q = some p := by simp only [convR, convL, conv, List.idxOf_cons, List.contains_cons, List.contains_nil, beq_self_eq_true, Bool.or_false, Bool.true_or, go_sem, *]; rfl) (hle : leR p (J v).1 := by first | exact leR_refl _ | (simp only [leR, leAL, leA, leL, leS, and_true, true_and, go_sem, *]; done) | fail)
    (htag : tagOk (lentT τ (comps q)) = true := by first | (simp only [comps, lentT, List.filter_nil, List.filter_cons, Bool.false_eq_true, beq_self_eq_true, Bool.or_false, Bool.true_or, go_sem, *]; done) | (simp only [comps, lentT, List.filter_nil, List.filter_cons, Bool.false_eq_true, beq_self_eq_true, Bool.or_false, Bool.true_or, go_sem, *]; rfl)) (hag : aggFree τ (comps q) = true := by first | exact aggFree_nil _ | rfl) (hok : okRet M.ins.length τ = true := by rfl) (hlen : ((J v).2.take M.ins.length).map (·.xs.length) = M.ins.map (·.xs.length) := by first | rfl | (simp; done) | (simp [*]; done) | fail) (hn : M.ins.length ≤ (J v).2.length := by first | exact Nat.zero_le _ | (simp; done) | fail) (hxq : (J v).3 ρ := by first | trivial | rfl | exact ⟨_, rfl⟩ | fail) :
    Sim M J (some v) (.code .ret :: k) ⟨env, H, fr, ρ⟩ := sim_ret τ hr hc hcv hle htag hag hok hlen hn hxq
theorem sFe (π : List Nat) (b : Bool) {τ : List Nat} {q p : AV} {v : R} (hr : ∀ E : Fx, EOk M E → resV E.X ⟨env, H, fr, ρ⟩ M.rs = some q := by intro E hE; simp only [resV, resL, resV1, hE.n, hE.p, go_sem, *]; rfl) (hτ : π ++ (cond b (rts (comps q)) []) = τ := by simp only [rts, comps, go_sem, *]; rfl) (hc : chkR ⟨env, H, fr, ρ⟩ τ (J v).2 := by first | (simp only [chkR, go_sem, *, and_true, true_and]; done) | fail)
    (hcv : convR τ H q = some p := by simp only [convR, convL, conv, List.idxOf_cons, List.contains_cons, List.contains_nil, beq_self_eq_true, Bool.or_false, Bool.true_or, go_sem, *]; rfl) (hle : leR p (J v).1 := by first | exact leR_refl _ | (simp only [leR, leAL, leA, leL, leS, and_true, true_and, go_sem, *]; done) | fail)
    (htag : tagOk (lentT τ (comps q)) = true := by first | (simp only [comps, lentT, List.filter_nil, List.filter_cons, Bool.false_eq_true, beq_self_eq_true, Bool.or_false, Bool.true_or, go_sem, *]; done) | (simp only [comps, lentT, List.filter_nil, List.filter_cons, Bool.false_eq_true, beq_self_eq_true, Bool.or_false, Bool.true_or, go_sem, *]; rfl)) (hag : aggFree τ (comps q) = true := by first | exact aggFree_nil _ | rfl) (hok : okRet M.ins.length τ = true := by rfl) (hlen : ((J v).2.take M.ins.length).map (·.xs.length) = M.ins.map (·.xs.length) := by first | rfl | (simp; done) | (simp [*]; done) | fail) (hn : M.ins.length ≤ (J v).2.length := by first | exact Nat.zero_le _ | (simp; done) | fail) (hxq : (J v).3 ρ := by first | trivial | rfl | exact ⟨_, rfl⟩ | fail) :
    Sim M J (some v) [] ⟨env, H, fr, ρ⟩ := sim_end τ hr hc hcv hle htag hag hok hlen hn hxq
theorem roomW {A m : Nat} (hm : A = m) (h : A < 35184372088832) : decide (m ≤ 9223372036854775807) = true ∧ decide (m * 4 ≤ 140737488355328) = true ∧ decide (m ≤ 9223372036854775806) = true ∧ decide ((m + 1) * 4 ≤ 140737488355328) = true := by
  subst hm; simp only [decide_eq_true_eq]; omega
theorem oIw {A m : Nat} {s : St} (h1 : decide (m ≤ 9223372036854775807) = true → decide (m * 4 ≤ 140737488355328) = true → decide (m ≤ 9223372036854775806) = true → decide ((m + 1) * 4 ≤ 140737488355328) = true → SimB md M J ops G1 idx k s) (hm : A = m := by first | (simp only [go_sem, *]; rfl) | rfl) : SimB md M J ops (if A < 35184372088832 then G1 else none) idx k s :=
  simB_ite (fun h => have r := roomW hm h; h1 r.1 r.2.1 r.2.2.1 r.2.2.2) (fun _ => simB_none)
theorem sJ {todo : List Item} {s : St} {n : Nat} (j : Nat → Option R) (h0 : j 0 = none) (h : ∀ m, m + 1 = n → Sim M J (j (m + 1)) todo s) : Sim M J (j n) todo s := by
  cases n with
  | zero => rw [h0]; exact sim_none
  | succ m => exact h m rfl
theorem oJ {s : St} {n : Nat} (j : Nat → Option R) (h0 : j 0 = none) (h : ∀ m, m + 1 = n → SimB md M J ops (j (m + 1)) idx k s) : SimB md M J ops (j n) idx k s := by
  cases n with
  | zero => rw [h0]; exact simB_none
  | succ m => exact h m rfl
theorem sNil (i t : Nat) (r : Row) (hi : env i = .nil := by first | (simp only [go_sem, *]; done) | fail) (ht : 16 ≤ t := by decide) (hn : H t = none := by first | (simp only [go_sem, *]; done) | fail) (hr : r.xs = [] := by rfl) (h : Sim M J G k ⟨upd env i (.own t 0 0), upd H t (some r), upd fr t false, ρ⟩) : Sim M J G k ⟨env, H, fr, ρ⟩ := sim_nilRow t r hi ht hn hr h
theorem lNil {s' : St} (i t : Nat) (r : Row) (hi : env i = .nil := by first | (simp only [go_sem, *]; done) | fail) (ht : 16 ≤ t := by decide) (hn : H t = none := by first | (simp only [go_sem, *]; done) | fail) (hr : r.xs = [] := by rfl) (h : LeM M ⟨upd env i (.own t 0 0), upd H t (some r), upd fr t false, ρ⟩ s') : LeM M ⟨env, H, fr, ρ⟩ s' := LeM.nilRow t r hi ht hn hr h
theorem lNilF {s' : St} (i q : Nat) (z : AV) (hi : env i = .nil := by first | (simp only [go_sem, *]; done) | fail) (h : LeM M ⟨upd env i (.sl q z []), H, fr, ρ⟩ s') : LeM M ⟨env, H, fr, ρ⟩ s' := LeM.nilSl q z hi h
theorem lC {L : List (Nat × AV)} {rows : List Row} {τ : List Nat} (π ts ν : List Nat) (hτ : π ++ tgs env ts = τ := by simp only [tgs, go_sem, *]; rfl) (hok : okT τ (π ++ ν) = true := by rfl) (hc : chkR ⟨env, H, fr, ρ⟩ τ rows := by first | (simp only [chkR, go_sem, *, and_true, true_and]; done) | fail)
    (hL : chkL M.N ⟨env, H, fr, ρ⟩ τ (π ++ ν) L := by first | (simp only [chkL, convL, conv, mpA, mpS, List.idxOf_cons, List.contains_cons, List.contains_nil, beq_self_eq_true, Bool.or_false, Bool.true_or, go_sem, *, and_true, true_and, Option.some.injEq, exists_eq_left']; done) | (simp only [chkL, convL, conv, mpA, mpS, List.idxOf_cons, List.contains_cons, List.contains_nil, beq_self_eq_true, Bool.or_false, Bool.true_or, go_sem, *, and_true, true_and, Option.some.injEq, exists_eq_left', List.length_append, List.length_replicate]; first | done | (and_intros <;> rfl)))
    (htag : tagOk (lentT τ (L.map fun p => env p.1)) = true := by first | (simp only [lentT, List.filter_nil, List.filter_cons, Bool.false_eq_true, beq_self_eq_true, Bool.or_false, Bool.true_or, go_sem, *]; done) | (simp only [lentT, List.filter_nil, List.filter_cons, Bool.false_eq_true, beq_self_eq_true, Bool.or_false, Bool.true_or, go_sem, *]; rfl)) (hag : aggFree τ (L.map fun p => env p.1) = true := by first | exact aggFree_nil _ | rfl) : LeM M ⟨env, H, fr, ρ⟩ (mkS L (π ++ ν) rows ρ) := LeM.canon τ (π ++ ν) hok hc hL htag hag
end
end Go.Proofs.YtpchdjdochkjpaaGreatDoor.Am

/- An abstract machine for Go functions over values: what a state of it says of a frame and of memory. · The abstract machine: what each operation does to a state. · The abstract machine: its plain operations are those of the machine (1): values, types, loads. · The abstract machine: its plain operations are those of the machine (2): numbers, texts, indices, cuts. · The abstract machine: its plain operations are those of the machine (3): addresses, structs, conversions; what is only read. · The abstract machine: its plain operations are those of the machine (4): new rows, stores; all together. · The abstract machine: its plain operations are those of the machine (5): every one. · The abstract machine: copy. · The abstract machine: its plain operations are those of the machine (6): the theorem. · The abstract machine: append; what a function's contract says, and a call. · The abstract machine: a call by its contract. · The abstract machine: a call by its contract, and what an operation is. · The abstract machine: regions without a draw; a function's body; contracts. -/
import Derived.WalkKit
import Derived.Orders
import Derived.Deep.AppendLies
import Derived.Laws.CopyOwn
import Derived.Great.BuildSlice
import Derived.Lib.AppendStr
import Derived.Maps.AppendAt
set_option linter.unusedVariables false
set_option linter.unusedSimpArgs false
namespace Go.Proofs.YtpchdjdochkjpaaGreatDoor.Am
open Go Go.RowKit
inductive AV where
 | dead | undef | nil
 | int (k : IntKind) (n : Int) | bool (b : Bool) | str (s : ByteArray)
 | agg (cs : List AV) | tup (vs : List AV)
 | sl (s : Nat) (z : AV) (xs : List AV)
 | fptr (x : AV)
 | own (t off len : Nat)
 | optr (t i o : Nat)
 | raw (v : Value)
 | fn (f : Nat)
 | lk (x : AV) (v : Value)
 | nmap
 | mp (ks : List ByteArray) (xs : List AV)
 deriving Inhabited
structure Row where
 e : TypeId
 s : Nat
 z : AV
 xs : List AV
structure Rs where
 bl : World → Nat → Prop
 ok : World → (Nat → Prop) → Prop
 rd : Addr → Option Value
 mono : ∀ {w w' : World} {fz fz' : Nat → Prop}, ok w fz → (∀ b, fz b ∨ bl w b → w'.heap[b]? = w.heap[b]?) → (∀ b, fz b → fz' b) → ok w' fz' ∧ ∀ b, bl w' b → bl w b
 rdok : ∀ {w : World} {fz : Nat → Prop} {a : Addr} {u : Value}, ok w fz → rd a = some u → a.spot = none ∧ w.cell? a = some u ∧ u.cells = #[u] ∧ u.oneCell' = true
def Rs.no : Rs := ⟨fun _ _ => False, fun _ _ => True, fun _ => none, fun _ _ _ => ⟨trivial, fun _ h => h⟩, fun _ h => nomatch h⟩
structure St where
 env : Nat → AV
 H : Nat → Option Row
 fr : Nat → Bool
 x : Rs := Rs.no
def upd {α : Type} (f : Nat → α) (i : Nat) (x : α) : Nat → α := fun j => if j = i then x else f j
theorem upd_apply {α : Type} (f : Nat → α) (i j : Nat) (x : α) : upd f i x j = if j = i then x else f j := rfl
def AV.scalar : AV → Bool
 | .agg _ | .tup _ | .dead | .undef => false
 | _ => true
inductive F (w : World) (fz : Nat → Prop) : AV → Value → Prop
 | nil : F w fz .nil (.slice none 0 0)
 | int (k n) : F w fz (.int k n) (.int k n)
 | bool (b) : F w fz (.bool b) (.bool b)
 | str (s) : F w fz (.str s) (.string s)
 | agg (cs : List AV) (vs : List Value) (hl : vs.length = cs.length) (hs : ∀ x ∈ cs, x.scalar = true)
   (h : ∀ (i : Nat) (x : AV) (v : Value), cs[i]? = some x → vs[i]? = some v → F w fz x v) : F w fz (.agg cs) (.agg vs.toArray)
 | sl0 (s z) : F w fz (.sl s z []) (.slice none 0 0)
 | slE (s z) (a : Addr) (cap : Nat) (hm : cap ≤ maxLen) : F w fz (.sl s z []) (.slice (some a) 0 cap)
 | sl (s : Nat) (z : AV) (xs : List AV) (us : List Value) (a : Addr) (cap : Nat) (hl : us.length = xs.length)
   (h : ∀ (i : Nat) (x : AV) (u : Value), xs[i]? = some x → us[i]? = some u → F w fz x u) (hz : ∀ u ∈ us, u.cells.size = s)
   (hc : ∀ (i : Nat) (u : Value) (j : Nat) (c : Value), us[i]? = some u → u.cells[j]? = some c → w.cell? ⟨a.block, a.off + (i * s + j), none⟩ = some c)
   (hsp : a.spot = none) (hf : fz a.block) (hcap : xs.length ≤ cap) (hm : cap ≤ maxLen) : F w fz (.sl s z xs) (.slice (some a) xs.length cap)
 | raw (v : Value) (h1 : v.cells = #[v]) (h2 : v.oneCell' = true) : F w fz (.raw v) v
 | fn (f : Nat) : F w fz (.fn f) (.func (.func f) #[] #[])
 | nmap : F w fz .nmap (.map none)
 | mp (ks : List ByteArray) (xs : List AV) (es : List MapEntry) (clock b : Nat) (hb : w.heap[b]? = some (.map es.toArray clock)) (hf : fz b) (hl : es.length = ks.length) (hx : xs.length = ks.length)
   (hk : ∀ (i : Nat) (e : MapEntry) (k : ByteArray), es[i]? = some e → ks[i]? = some k → e.key = .string k) (h : ∀ (i : Nat) (x : AV) (e : MapEntry), xs[i]? = some x → es[i]? = some e → F w fz x e.val) : F w fz (.mp ks xs) (.map (some b))
 | fptr (x : AV) (u : Value) (a : Addr) (h : F w fz x u) (hc : ∀ (j : Nat) (c : Value), u.cells[j]? = some c → w.cell? ⟨a.block, a.off + j, none⟩ = some c)
   (hsp : a.spot = none) (hf : fz a.block) : F w fz (.fptr x) (.pointer (some a))
structure Own where
 blk : Nat
 cap : Nat
 s : Nat
inductive V (w : World) (fz : Nat → Prop) (β : Nat → Option Own) (dm : Nat → Option Nat) : AV → Value → Prop
 | dead (v) : V w fz β dm .dead v
 | f (x v) (h : F w fz x v) : V w fz β dm x v
 | undef : V w fz β dm .undef undef
 | lk (x : AV) (v : Value) (h : V w fz β dm x v) (h1 : v.cells = #[v]) (h2 : v.oneCell' = true) : V w fz β dm (.lk x v) v
 | own0 (t n) (hd : dm t = some n) (hb : β t = none) : V w fz β dm (.own t 0 0) (.slice none 0 0)
 | own (t off len a c o n) (hd : dm t = some n) (hb : β t = some o) (ha : a = off * o.s ∨ (c = 0 ∧ 0 < off)) (hl : len ≤ c) (hc : off + c = o.cap) (hn : off + len ≤ n) : V w fz β dm (.own t off len) (.slice (some ⟨o.blk, a, none⟩) len c)
 | optr (t i k o n) (hd : dm t = some n) (hb : β t = some o) (hn : i < n) : V w fz β dm (.optr t i k) (.pointer (some ⟨o.blk, i * o.s + k, none⟩))
 | agg (cs : List AV) (vs : List Value) (hl : vs.length = cs.length)
   (h : ∀ (i : Nat) (x : AV) (v : Value), cs[i]? = some x → vs[i]? = some v → V w fz β dm x v) : V w fz β dm (.agg cs) (.agg vs.toArray)
 | tup (cs : List AV) (vs : List Value) (hl : vs.length = cs.length)
   (h : ∀ (i : Nat) (x : AV) (v : Value), cs[i]? = some x → vs[i]? = some v → V w fz β dm x v) : V w fz β dm (.tup cs) (.tuple vs.toArray)
def RowOk (w : World) (fz : Nat → Prop) (β : Nat → Option Own) (t : Nat) (r : Row) : Prop :=
 match β t with
 | none => r.xs = []
 | some o => o.s = r.s ∧ 0 < r.s ∧ r.xs.length ≤ o.cap ∧ o.cap ≤ maxLen ∧ ∃ (cur : Array Value) (us : List Value), w.heap[o.blk]? = some (.cells cur r.e (0, 0)) ∧ cur.size = o.cap * r.s ∧
   us.length = r.xs.length ∧ (∀ (i : Nat) (x : AV) (u : Value), r.xs[i]? = some x → us[i]? = some u → F w fz x u) ∧ (∀ u ∈ us, u.cells.size = r.s) ∧
   (∀ (i : Nat) (u : Value) (j : Nat) (c : Value), us[i]? = some u → u.cells[j]? = some c → cur[i * r.s + j]? = some c)
theorem cell_of_heap {w w' : World} {b o : Nat} (h : w'.heap[b]? = w.heap[b]?) : w'.cell? ⟨b, o, none⟩ = w.cell? ⟨b, o, none⟩ := by simp [World.cell?, h]
theorem F.mono {w w' : World} {fz fz' : Nat → Prop} {x : AV} {v : Value} (h : F w fz x v) (hw : ∀ b, fz b → w'.heap[b]? = w.heap[b]?) (hz : ∀ b, fz b → fz' b) : F w' fz' x v := by
 induction h with
 | nil => exact .nil
 | int k n => exact .int k n
 | bool b => exact .bool b
 | str s => exact .str s
 | agg cs vs hl hs h ih => exact .agg cs vs hl hs ih
 | sl0 s z => exact .sl0 s z
 | slE s z a cap hm => exact .slE s z a cap hm
 | sl s z xs us a cap hl h hz' hc hsp hf hcap hm ih => exact .sl s z xs us a cap hl ih hz' (fun i u j c h1 h2 => by rw [cell_of_heap (hw _ hf)]; exact hc i u j c h1 h2) hsp (hz _ hf) hcap hm
 | raw v h1 h2 => exact .raw v h1 h2
 | fn f => exact .fn f
 | nmap => exact .nmap
 | mp ks xs es clock b hb hf hl hx hk h ih => exact .mp ks xs es clock b (by rw [hw b hf]; exact hb) (hz b hf) hl hx hk ih
 | fptr x u a h hc hsp hf ih => exact .fptr x u a ih (fun j c h1 => by rw [cell_of_heap (hw _ hf)]; exact hc j c h1) hsp (hz _ hf)
theorem V.mono {w w' : World} {fz fz' : Nat → Prop} {β β' : Nat → Option Own} {dm dm' : Nat → Option Nat} {x : AV} {v : Value} (h : V w fz β dm x v)
  (hw : ∀ b, fz b → w'.heap[b]? = w.heap[b]?) (hz : ∀ b, fz b → fz' b) (hd : ∀ t n, dm t = some n → dm' t = some n) (hb : ∀ t n, dm t = some n → β' t = β t) : V w' fz' β' dm' x v := by
 induction h with
 | dead v => exact .dead v
 | f x v h => exact .f x v (h.mono hw hz)
 | undef => exact .undef
 | lk x v h h1 h2 ih => exact .lk x v ih h1 h2
 | own0 t n h1 h2 => exact .own0 t n (hd t n h1) ((hb t n h1).trans h2)
 | own t off len a c o n h1 h2 ha hl hc hn => exact .own t off len a c o n (hd t n h1) ((hb t n h1).trans h2) ha hl hc hn
 | optr t i k o n h1 h2 hn => exact .optr t i k o n (hd t n h1) ((hb t n h1).trans h2) hn
 | agg cs vs hl h ih => exact .agg cs vs hl ih
 | tup cs vs hl h ih => exact .tup cs vs hl ih
theorem RowOk.mono {w w' : World} {fz fz' : Nat → Prop} {β β' : Nat → Option Own} {t : Nat} {r : Row} (h : RowOk w fz β t r)
  (hw : ∀ b, fz b → w'.heap[b]? = w.heap[b]?) (hz : ∀ b, fz b → fz' b) (hb : β' t = β t) (hk : ∀ o, β t = some o → w'.heap[o.blk]? = w.heap[o.blk]?) : RowOk w' fz' β' t r := by
 unfold RowOk at *
 rw [hb]
 cases hq : β t with
 | none => rw [hq] at h; exact h
 | some o =>
  rw [hq] at h
  obtain ⟨h1, h2, h3, h4, cur, us, h5, h6, h7, h8, h9, h10⟩ := h
  exact ⟨h1, h2, h3, h4, cur, us, by rw [hk o hq]; exact h5, h6, h7, fun i x u a b => (h8 i x u a b).mono hw hz, h9, h10⟩
structure Cx where
 P : Program
 G : Nat → AV
 N : Nat
 w0 : World
 fz0 : Nat → Prop
 wr : Nat → Prop
 β0 : Nat → Option Own
structure Bel (wr : Nat → Prop) (w w' : World) : Prop where
 os : w'.os = w.os
 tape : w'.tape = w.tape
 output : w'.output = w.output
 size : w.heap.size ≤ w'.heap.size
 block : ∀ k, k < w.heap.size → ¬ wr k → w'.heap[k]? = w.heap[k]?
theorem Bel.refl (wr : Nat → Prop) (w : World) : Bel wr w w := ⟨rfl, rfl, rfl, Nat.le_refl _, fun _ _ _ => rfl⟩
def St.dm (s : St) : Nat → Option Nat := fun t => (s.H t).map (·.xs.length)
def Gl (G : Nat → AV) (w : World) (fz : Nat → Prop) : Prop := ∀ g, G g ≠ .dead → F w fz (G g) (.pointer (some ⟨g, 0, none⟩))
def XO (X : Cx) (x : Rs) (H : Nat → Option Row) (fz : Nat → Prop) (β : Nat → Option Own) (w : World) : Prop :=
 x.ok w fz ∧ ∀ b, x.bl w b → b < w.heap.size ∧ ¬ fz b ∧ (X.w0.heap.size ≤ b ∨ X.wr b) ∧ ∀ t o, H t ≠ none → β t = some o → o.blk ≠ b
theorem XO.mono {X : Cx} {x : Rs} {H H' : Nat → Option Row} {fz fz' : Nat → Prop} {β β' : Nat → Option Own} {w w' : World} (h : XO X x H fz β w) (hw : ∀ b, fz b ∨ x.bl w b → w'.heap[b]? = w.heap[b]?) (hz : ∀ b, fz b → fz' b) (hz2 : ∀ b, fz' b → fz b ∨ ¬ x.bl w b)
  (hs : w.heap.size ≤ w'.heap.size) (hr : ∀ t o, H' t ≠ none → β' t = some o → (H t ≠ none ∧ β t = some o) ∨ ¬ x.bl w o.blk) : XO X x H' fz' β' w' :=
 ⟨(x.mono h.1 hw hz).1, fun b hb => by
  have hb := (x.mono h.1 hw hz).2 b hb
  obtain ⟨h1, h2, h3, h4⟩ := h.2 b hb
  refine ⟨Nat.lt_of_lt_of_le h1 hs, fun hf => ?_, h3, fun t o ht ho e => ?_⟩
  ·rcases hz2 b hf with hf | hf
   ·exact h2 hf
   ·exact hf hb
  ·rcases hr t o ht ho with ⟨g1, g2⟩ | g
   ·exact h4 t o g1 g2 e
   ·exact g (e ▸ hb)⟩
theorem XO.same {X : Cx} {x : Rs} {H H' : Nat → Option Row} {fz : Nat → Prop} {β : Nat → Option Own} {w : World} (h : XO X x H fz β w) (hr : ∀ t, H' t ≠ none → H t ≠ none) : XO X x H' fz β w :=
 h.mono (fun _ _ => rfl) (fun _ z => z) (fun _ z => .inl z) (Nat.le_refl _) (fun t o ht ho => .inl ⟨hr t ht, ho⟩)
structure Rel (X : Cx) (s : St) (fz : Nat → Prop) (β : Nat → Option Own) (a : Act) (w : World) : Prop where
 bel : Bel X.wr X.w0 w
 sz : a.tmps.size = X.N
 df : a.defers = []
 tm : ∀ i, i < X.N → V w fz β s.dm (s.env i) (a.tmps.getD i undef)
 rw : ∀ t r, s.H t = some r → RowOk w fz β t r
 ij : ∀ t t' o o', s.H t ≠ none → s.H t' ≠ none → β t = some o → β t' = some o' → o.blk = o'.blk → t = t'
 lo : ∀ t o, s.H t ≠ none → β t = some o → (16 ≤ t → X.w0.heap.size ≤ o.blk) ∧ (X.w0.heap.size ≤ o.blk ∨ X.wr o.blk)
 fl : ∀ t o, s.H t ≠ none → β t = some o → (s.fr t = false → ¬ fz o.blk) ∧ (s.fr t = true → fz o.blk)
 fs : ∀ b, fz b → b < w.heap.size ∧ (b < X.w0.heap.size → X.fz0 b)
 f0 : ∀ b, X.fz0 b → fz b
 gl : Gl X.G w fz
 bi : ∀ t, t < 16 → β t = X.β0 t
 vt : ∀ i, X.N ≤ i → ∃ v, V w fz β s.dm (s.env i) v
 xo : XO X s.x s.H fz β w
theorem RowOk.lt {w : World} {fz : Nat → Prop} {β : Nat → Option Own} {t : Nat} {r : Row} (h : RowOk w fz β t r) {o : Own} (ho : β t = some o) : o.blk < w.heap.size := by
 unfold RowOk at h
 rw [ho] at h
 obtain ⟨_, _, _, _, cur, us, h5, _⟩ := h
 exact (Array.getElem?_eq_some_iff.1 h5).1
theorem Rel.world {X : Cx} {s : St} {fz : Nat → Prop} {β : Nat → Option Own} {a : Act} {w w' : World} (h : Rel X s fz β a w) (hos : w'.os = w.os) (htp : w'.tape = w.tape) (hout : w'.output = w.output)
  (hsz : w.heap.size ≤ w'.heap.size) (hb : ∀ b, b < w.heap.size → w'.heap[b]? = w.heap[b]?) : Rel X s fz β a w' := by
 have hf : ∀ b, fz b → w'.heap[b]? = w.heap[b]? := fun b hb' => hb b (h.fs b hb').1
 refine ⟨⟨hos.trans h.bel.os, htp.trans h.bel.tape, hout.trans h.bel.output, Nat.le_trans h.bel.size hsz, fun k hk hn => (hb k (Nat.lt_of_lt_of_le hk h.bel.size)).trans (h.bel.block k hk hn)⟩, h.sz, h.df,
  fun i hi => (h.tm i hi).mono hf (fun _ z => z) (fun _ _ z => z) (fun _ _ _ => rfl), fun t r ht => (h.rw t r ht).mono hf (fun _ z => z) rfl (fun o ho => hb _ ((h.rw t r ht).lt ho)), h.ij, h.lo, h.fl,
  fun b hb' => ⟨Nat.lt_of_lt_of_le (h.fs b hb').1 hsz, (h.fs b hb').2⟩, h.f0, fun g hg => (h.gl g hg).mono hf (fun _ z => z), h.bi, fun i hi => (h.vt i hi).imp fun v hv => hv.mono hf (fun _ z => z) (fun _ _ z => z) (fun _ _ _ => rfl),
  h.xo.mono (fun b hb' => hb b (hb'.elim (fun z => (h.fs b z).1) (fun z => (h.xo.2 b z).1))) (fun _ z => z) (fun _ z => .inl z) hsz (fun t o ht ho => .inl ⟨ht, ho⟩)⟩
theorem Rel.drew {X : Cx} {s : St} {fz : Nat → Prop} {β : Nat → Option Own} {a : Act} {w : World} (h : Rel X s fz β a w) : Rel X s fz β a { w with drawn := w.drawn + 1 } :=
 h.world rfl rfl rfl (Nat.le_refl _) (fun _ _ => rfl)
theorem Rel.put {X : Cx} {s : St} {fz : Nat → Prop} {β : Nat → Option Own} {a : Act} {w : World} (h : Rel X s fz β a w) {x : AV} {v : Value}
  (hv : V w fz β s.dm x v) (d : Option Nat) : Rel X { s with env := match d with | some d => upd s.env d x | none => s.env } fz β (a.put d v) w := by
 refine ⟨h.bel, ?_, ?_, ?_, h.rw, h.ij, h.lo, h.fl, h.fs, h.f0, h.gl, h.bi, ?_, h.xo⟩
 ·cases d <;> simp [Act.put, h.sz]
 ·cases d <;> simp [Act.put, h.df]
 ·intro i hi
  cases d with
  | none => exact h.tm i hi
  | some d =>
   simp only [Act.put, upd_apply]
   by_cases hid : i = d
   ·subst hid
    rw [if_pos rfl]
    have : (a.tmps.setIfInBounds i v).getD i undef = v := by
     have := h.sz
     simp [Array.getD, this, hi]
    rw [this]; exact hv
   ·rw [if_neg hid]
    have : (a.tmps.setIfInBounds d v).getD i undef = a.tmps.getD i undef := by
     simp [Array.getElem?_setIfInBounds_ne (Ne.symm hid)]
    rw [this]; exact h.tm i hi
 ·intro i hi
  cases d with
  | none => exact h.vt i hi
  | some d =>
   simp only [upd_apply]
   by_cases hid : i = d
   ·rw [if_pos hid]; exact ⟨v, hv⟩
   ·rw [if_neg hid]; exact h.vt i hi
end Go.Proofs.YtpchdjdochkjpaaGreatDoor.Am
set_option linter.unusedVariables false
set_option linter.unusedSimpArgs false
namespace Go.Proofs.YtpchdjdochkjpaaGreatDoor.Am
open Go Go.RowKit
def isAg : TypeDesc → Bool
 | .struct _ | .array _ _ => true
 | _ => false
def kd (P : Program) (ty : TypeId) : Option (Bool × Nat) :=
 match P.underlying ty, P.info? ty with
 | some d, some i => some (isAg d, i.size)
 | _, _ => none
def cavS : Value → AV
 | .int k n => .int k n
 | .bool b => .bool b
 | .string s => .str s
 | .slice none 0 0 => .nil
 | .pointer none => .raw (.pointer none)
 | .map none => .raw (.map none)
 | _ => .dead
def cav : Value → AV
 | .agg vs => .agg (vs.toList.map cavS)
 | v => cavS v
def zv (P : Program) (ty : TypeId) : AV :=
 match P.info? ty with
 | some i => match i.zero with | some v => cav v | none => .dead
 | none => .dead
def elS (P : Program) (t : TypeId) : Option (TypeId × Nat × Nat × AV) :=
 match P.underlying t with
 | some (.slice e) => match P.info? e with
  | some i => match i.zero with
   | some z => some (e, i.size, i.bytes, cav z)
   | none => none
  | none => none
 | _ => none
def arS (P : Program) (t : TypeId) : Option (Nat × Bool × Nat × AV) :=
 match P.underlying t with
 | some (.array n e) => match kd P e with
  | some (b, s) => some (n, b, s, zv P e)
  | none => none
 | _ => none
def fdS (P : Program) (t f : Nat) : Option (Nat × Bool × Nat) :=
 match P.underlying t with
 | some (.struct fs) => match fs[f]? with
  | some q => match kd P q.type with
   | some (b, s) => some (q.offset, b, s)
   | none => none
  | none => none
 | _ => none
inductive Pl where | st (l : List (Nat × Nat)) | ar (s : Nat)
def Pl.at : Pl → Nat → Option (Nat × Nat)
 | .st l, i => l[i]?
 | .ar s, i => some (i * s, s)
def plA (P : Program) (t : Nat) : Option Pl :=
 match P.underlying t with
 | some (.struct fs) => (fs.toList.mapM fun q => (P.info? q.type).map fun i => (q.offset, i.size)).map Pl.st
 | some (.array _ e) => (P.info? e).map fun i => .ar i.size
 | _ => none
inductive Kn where | int (k : IntKind) | bool | str | slice (e : TypeId) | other
 deriving DecidableEq
def kn (P : Program) (t : TypeId) : Kn :=
 match P.underlying t with
 | some (.int k) => .int k
 | some .bool => .bool
 | some .string => .str
 | some (.slice e) => .slice e
 | _ => .other
def isPt (P : Program) (t : TypeId) : Bool := match P.underlying t with | some (.pointer _) => true | _ => false
def eqF (P : Program) (rec : TypeId → Option (List Kn)) : Nat → List Field → Option (List Kn)
 | _, [] => some []
 | o, f :: fs => match rec f.type with
  | some ks => bif f.name != "_" && f.offset == o then (match eqF P rec (o + ks.length) fs with | some ks' => some (ks ++ ks') | none => none) else none
  | none => none
def eqK (P : Program) : Nat → TypeId → Option (List Kn)
 | 0, _ => none
 | d + 1, t => match P.underlying t, kd P t with
  | some (.int k), some (false, 1) => some [.int k]
  | some .bool, some (false, 1) => some [.bool]
  | some .string, some (false, 1) => some [.str]
  | some (.struct fs), some (true, n) => bif P.stoodInHeld t then none else match eqF P (eqK P d) 0 fs.toList with | some ks => bif ks.length == n then some ks else none | none => none
  | some (.array m e), some (true, n) => match eqK P d e with | some ks => bif m * ks.length == n then some (List.replicate m ks).flatten else none | none => none
  | _, _ => none
def eqT (P : Program) (t : TypeId) : Option (List Kn) := bif P.eqGuardType P.depth t then none else eqK P 9 t
def eq1 : Kn → AV → AV → Option Bool
 | .int k, .int k1 a, .int k2 b => bif decide (k1 = k) && decide (k2 = k) then some (decide (a = b)) else none
 | .bool, .bool a, .bool b => some (a == b)
 | .str, .str a, .str b => some (decide (a.toList = b.toList))
 | _, _, _ => none
def eqL : List Kn → List AV → List AV → Option Bool
 | [], [], [] => some true
 | k :: ks, x :: xs, y :: ys => match eq1 k x y, eqL ks xs ys with | some a, some b => some (a && b) | _, _ => none
 | _, _, _ => none
def eqA (P : Program) (t : TypeId) (xs ys : List AV) : Option Bool := match kd P t, eqT P t with | some (true, _), some ks => eqL ks xs ys | _, _ => none
def wr (k : IntKind) (n : Int) : Int :=
 match k with
 | .i64 => wrap64 n
 | .u32 => n % 4294967296
 | .u8 => n % 256
 | k => k.wrap n
def shlA (k : IntKind) (x y : Int) : Int := wr k (x * 2 ^ min y.toNat k.bits)
def shrA (k : IntKind) (x y : Int) : Int := x / 2 ^ min y.toNat k.bits
def bts (s : ByteArray) (i : Int) : Int := if h : i.toNat < s.size then ((s[i.toNat]'h).toNat : Int) else 0
def need {α : Type} (b : Bool) (x : Option α) : Option α := cond b x none
def bnI (op : BinOp) (k : IntKind) (a b : Int) : Option AV :=
 match op with
 | .add => some (.int k (wr k (a + b)))
 | .sub => some (.int k (wr k (a - b)))
 | .mul => some (.int k (wr k (a * b)))
 | .quo => need (!decide (b = 0)) (some (.int k (wr k (Int.tdiv a b))))
 | .rem => need (!decide (b = 0)) (some (.int k (Int.tmod a b)))
 | .and | .or | .xor | .andNot => some (.int k (Go.bits op k a b))
 | .eql => some (.bool (decide (a = b)))
 | .neq => some (.bool (!decide (a = b)))
 | .lss => some (.bool (decide (a < b)))
 | .leq => some (.bool (decide (a ≤ b)))
 | .gtr => some (.bool (decide (b < a)))
 | .geq => some (.bool (decide (b ≤ a)))
 | _ => none
def bnS (op : BinOp) (a b : ByteArray) : Option AV :=
 match op with
 | .add => need (decide ((a.size : Int) + (b.size : Int) ≤ 9223372036854775807)) (some (.str (a ++ b)))
 | .eql => some (.bool (decide (a.toList = b.toList)))
 | .neq => some (.bool (!decide (a.toList = b.toList)))
 | .lss => some (.bool (Op.bytesLess a.toList b.toList))
 | .gtr => some (.bool (!(Op.bytesLess a.toList b.toList || decide (a.toList = b.toList))))
 | .leq => some (.bool (Op.bytesLess a.toList b.toList || decide (a.toList = b.toList)))
 | .geq => some (.bool (!Op.bytesLess a.toList b.toList))
 | _ => none
def bn (P : Program) (t : TypeId) (op : BinOp) (x y : AV) : Option AV :=
 match x, y with
 | .int k a, .int k' b =>
  match op with
  | .shl => need (decide (0 ≤ b)) (some (.int k (shlA k a b)))
  | .shr => need (decide (0 ≤ b)) (some (.int k (shrA k a b)))
  | op => if k = k' then bnI op k a b else none
 | .str a, .str b => bnS op a b
 | .bool a, .bool b =>
  match op, kn P t with
  | .eql, .bool => some (.bool (a == b))
  | .neq, .bool => some (.bool (!(a == b)))
  | _, _ => none
 | .agg xs, .agg ys =>
  match op, eqA P t xs ys with
  | .eql, some r => some (.bool r)
  | .neq, some r => some (.bool (!r))
  | _, _ => none
 | .raw (.pointer p), .raw (.pointer none) =>
  match op, isPt P t with
  | .eql, true => some (.bool p.isNone)
  | .neq, true => some (.bool (!p.isNone))
  | _, _ => none
 | _, _ => none
def un (op : UnOp) (x : AV) : Option AV :=
 match op, x with
 | .not, .bool b => some (.bool (!b))
 | .neg, .int k n => some (.int k (wr k (0 - n)))
 | .xor, .int k n => some (.int k (Go.bits .xor k (if k.signed then -1 else k.max) n))
 | _, _ => none
def sub (xs : List AV) (off len : Nat) : List AV := (xs.drop off).take len
def bytesV (xs : List AV) : Option (List UInt8) := xs.mapM fun | .int .u8 n => some (UInt8.ofNat n.toNat) | _ => none
def part (x : AV) (o : Nat) (g : Bool) (n : Nat) : Option AV :=
 match x with
 | .agg cs => bif g then need (decide (o + n ≤ cs.length)) (some (.agg ((cs.drop o).take n))) else cs[o]?
 | x => need (x.scalar && !g && decide (o = 0)) (some x)
def setPart (x : AV) (o : Nat) (g : Bool) (n : Nat) (y : AV) : Option AV :=
 match x with
 | .agg cs => bif g then (match y with | .agg ds => need (decide (o + n ≤ cs.length) && decide (ds.length = n)) (some (.agg (cs.take o ++ ds ++ cs.drop (o + n)))) | _ => none)
  else need (decide (o < cs.length) && y.scalar && decide (n = 1)) (some (.agg (cs.set o y)))
 | x => need (x.scalar && !g && decide (o = 0) && y.scalar && decide (n = 1)) (some y)
def deepS (H : Nat → Option Row) : AV → Option AV
 | .own t off len => match H t with | some r => some (.sl r.s r.z (sub r.xs off len)) | none => none
 | .optr _ _ _ | .tup _ | .agg _ | .dead | .undef => none
 | .lk _ v => some (.raw v)
 | x => some x
def deepL (H : Nat → Option Row) : List AV → Option (List AV)
 | [] => some []
 | x :: xs => match deepS H x, deepL H xs with | some y, some ys => some (y :: ys) | _, _ => none
def deep (H : Nat → Option Row) : AV → Option AV
 | .agg cs => match deepL H cs with | some ds => some (.agg ds) | none => none
 | x => deepS H x
def tagS : AV → List Nat
 | .own t _ _ => [t]
 | _ => []
def tagOk (l : List Nat) : Bool := l.all (fun t => decide (16 ≤ t))
def tags : AV → List Nat
 | .agg cs => cs.flatMap tagS
 | x => tagS x
structure Eff where
 val : AV
 new : List Row := []
 wr : List (Nat × Row) := []
 fz : List Nat := []
 xs : Option Rs := none
def vl (x : AV) : Option Eff := some { val := x }
def tg (d j : Nat) : Nat := 16 * (d + 1) + j
def ev (N : Nat) (G : Nat → AV) (env : Nat → AV) : Operand → AV
 | .tmp t => cond (decide (t < N)) (env t) .dead
 | .const v => cav v
 | .global g => G g
 | .func f => .fn f
def lenV (P : Program) (t : TypeId) (x : AV) : Option AV :=
 match kn P t, x with
 | .str, .str s => some (.int .i64 (s.size : Int))
 | .slice _, .sl _ _ xs => some (.int .i64 (xs.length : Int))
 | .slice _, .own _ _ n => some (.int .i64 (n : Int))
 | .slice _, .nil => some (.int .i64 0)
 | _, _ => none
def hasT (P : Program) (t : TypeId) : Bool := (P.underlying t).isSome
def cvt (P : Program) (H : Nat → Option Row) (src dst : TypeId) (x : AV) : Option AV :=
 match kn P dst, x with
 | .int k, .int _ n => need (hasT P src) (some (.int k (wr k n)))
 | .str, .str s => need (hasT P src) (some (.str s))
 | .str, x => match kn P src, deepS H x with
  | .slice e, some (.sl 1 _ xs) => match kn P e, bytesV xs with
   | .int .u8, some l => some (.str ⟨l.toArray⟩)
   | _, _ => none
  | .slice e, some .nil => match kn P e with | .int .u8 => some (.str ⟨#[]⟩) | _ => none
  | _, _ => none
 | _, _ => none
def optI : Option AV → Int → Option Int
 | none, d => some d
 | some (.int _ n), _ => some n
 | _, _ => none
def cut (P : Program) (H : Nat → Option Row) (t : TypeId) (x : AV) (lo hi : Option AV) : Option AV :=
 match x, optI lo 0 with
 | .str s, some l => match kn P t, optI hi (s.size : Int) with
  | .str, some h => need (decide (0 ≤ l)) (need (decide (l ≤ h)) (need (decide (h ≤ (s.size : Int))) (some (.str (s.extract l.toNat h.toNat)))))
  | _, _ => none
 | .sl s z xs, some l => match kn P t, elS P t, optI hi (xs.length : Int) with
  | .slice _, some (_, s', _, _), some h => if s = s' then need (decide (0 ≤ l)) (need (decide (l ≤ h)) (need (decide (h ≤ (xs.length : Int))) (some (.sl s z (sub xs l.toNat (h.toNat - l.toNat)))))) else none
  | _, _, _ => none
 | .own t' off n, some l => match H t', elS P t, optI hi (n : Int) with
  | some r, some (_, s', _, _), some h => if r.s = s' then need (decide (0 ≤ l)) (need (decide (l ≤ h)) (need (decide (h ≤ (n : Int))) (some (.own t' (off + l.toNat) (h.toNat - l.toNat))))) else none
  | _, _, _ => none
 | _, _ => none
def idxA (P : Program) (H : Nat → Option Row) (t : TypeId) (x i : AV) : Option AV :=
 match i, x with
 | .int _ i, .sl s z xs => match elS P t with
  | some (_, s', _, _) => if s = s' then need (decide (0 ≤ i)) (need (decide (i < (xs.length : Int))) (some (.fptr (xs.getD i.toNat z)))) else none
  | none => none
 | .int _ i, .own t' off n => match H t', elS P t with
  | some r, some (_, s', _, _) => if r.s = s' then need (decide (0 ≤ i)) (need (decide (i < (n : Int))) (some (.optr t' (off + i.toNat) 0))) else none
  | _, _ => none
 | .int _ i, .fptr (.agg cs) => match arS P t with
  | some (n, true, s, _) => need (decide (n * s = cs.length) && decide (1 < n)) (need (decide (0 ≤ i)) (need (decide (i < (n : Int))) (match part (.agg cs) (i.toNat * s) true s with | some y => some (.fptr y) | none => none)))
  | some (n, false, s, z) => need (decide (n = cs.length) && decide (1 < n) && decide (s = 1)) (need (decide (0 ≤ i)) (need (decide (i < (cs.length : Int))) (some (.fptr (cs.getD i.toNat z)))))
  | none => none
 | .int _ i, .optr t' e o => match arS P t with
  | some (n, _, s, _) => need (decide (1 < n)) (need (decide (0 ≤ i)) (need (decide (i < (n : Int))) (some (.optr t' e (o + i.toNat * s)))))
  | none => none
 | _, _ => none
def idx (P : Program) (t : TypeId) (x i : AV) : Option AV :=
 match i, x with
 | .int _ i, .str s => match kn P t with
  | .str => need (decide (0 ≤ i)) (need (decide (i < (s.size : Int))) (some (.int .u8 (bts s i))))
  | _ => none
 | .int _ i, .agg cs => match arS P t with
  | some (n, g, s, _) => need (decide (0 ≤ i)) (need (decide (i < (n : Int))) (part (.agg cs) (i.toNat * s) g s))
  | none => none
 | _, _ => none
def ld (P : Program) (H : Nat → Option Row) (ty : TypeId) (p : AV) : Option AV :=
 match kd P ty, p with
 | some (g, n), .fptr x => match x with
  | .agg cs => need (g && decide (cs.length = n)) (some (.agg cs))
  | x => need (x.scalar && !g) (some x)
 | some (g, n), .optr t i o => match H t with
  | some r => part (r.xs.getD i .dead) o g n
  | none => none
 | _, _ => none
def ldX (P : Program) (s : St) (ty : TypeId) (p : AV) : Option AV :=
 match p with
 | .raw (.pointer (some a)) => match kd P ty with
  | some (g, _) => need (!g) (match s.x.rd a with | some u => some (.raw u) | none => none)
  | none => none
 | p => ld P s.H ty p
def nlC : AV → Option AV
 | .optr t i o => some (.optr t i o)
 | .fptr y => some (.fptr y)
 | .raw (.pointer (some a)) => some (.raw (.pointer (some a)))
 | _ => none
def st (P : Program) (H : Nat → Option Row) (fr : Nat → Bool) (ty : TypeId) (p x : AV) : Option Eff :=
 match kd P ty, p with
 | some (g, n), .optr t i o => match H t, deep H x with
  | some r, some y => match setPart (r.xs.getD i .dead) o g n y with
   | some z => need (!fr t && !(tags x).contains t && tagOk (tags x)) (some { val := .undef, wr := [(t, { r with xs := r.xs.set i z })], fz := tags x })
   | none => none
  | _, _ => none
 | _, _ => none
def ptrFd (P : Program) (t f : Nat) (x : AV) : Option AV :=
 match fdS P t f, x with
 | some (o, g, n), .fptr y => match part y o g n with | some z => need (decide (0 < n)) (some (.fptr z)) | none => none
 | some (o, _, n), .optr t' i k => need (decide (0 < n)) (some (.optr t' i (k + o)))
 | some (o, _, n), .raw (.pointer (some a)) => need (decide (0 < n) && a.spot.isNone) (some (.raw (.pointer (some ⟨a.block, a.off + o, none⟩))))
 | _, _ => none
def fillA (pl : Nat → Option (Nat × Nat)) (cs : List AV) : List (Nat × AV) → Option (List AV)
 | [] => some cs
 | (i, v) :: rest => match pl i with
  | none => none
  | some (o, n) => match v with
   | .agg ds => need (decide (ds.length = n) && decide (o + n ≤ cs.length)) (fillA pl (cs.take o ++ ds ++ cs.drop (o + n)) rest)
   | v => need (v.scalar && decide (n = 1) && decide (o < cs.length)) (fillA pl (cs.set o v) rest)
def mkAgg (P : Program) (t : TypeId) (ps : List (Nat × AV)) : Option AV :=
 match plA P t, zv P t with
 | some pl, .agg cs => match fillA pl.at cs ps with | some ds => some (.agg ds) | none => none
 | _, _ => none
def litRow (n : Nat) (ps : List (Nat × AV)) : Option (List AV) :=
 need (decide (ps.map (·.1) = List.range n)) (some (ps.map (·.2)))
def deepAll (H : Nat → Option Row) : List AV → Option (List AV)
 | [] => some []
 | x :: xs => match deep H x, deepAll H xs with | some y, some ys => some (y :: ys) | _, _ => none
def sizedAs (s : Nat) (x : AV) : Bool :=
 match x with
 | .agg cs => decide (cs.length = s) && cs.all AV.scalar
 | x => x.scalar && decide (s = 1)
def bytesL (s : ByteArray) : List AV := s.data.toList.map fun b => .int .u8 (b.toNat : Int)
def srcL (H : Nat → Option Row) (sz : Nat) (y : AV) : Option (List AV) :=
 match y with
 | .str s => need (decide (sz = 1)) (some (bytesL s))
 | y => match deepS H y with
  | some (.sl s _ ys) => need (decide (s = sz)) (some ys)
  | some .nil => some []
  | _ => none
def cpl (xs : List AV) (off k : Nat) (ys : List AV) : List AV := xs.take off ++ ys.take k ++ xs.drop (off + k)
def cpA (P : Program) (H : Nat → Option Row) (fr : Nat → Bool) (dT : TypeId) (x y : AV) : Option Eff :=
 match x, elS P dT with
 | .own t off n, some (_, sz, _, _) => match H t, srcL H 1 y with
  | some r, some ys => need (!fr t && decide (r.s = 1) && decide (sz = 1)) (some { val := .int .i64 ((min ys.length n : Nat) : Int), wr := [(t, { r with xs := cpl r.xs off (min ys.length n) ys })] })
  | _, _ => none
 | _, _ => none
def vo : Option AV → Option Eff
 | some x => vl x
 | none => none
def act (P : Program) (N : Nat) (G : Nat → AV) (s : St) (d : Nat) (op : Op) : Option Eff :=
 match op with
 | .move x | .assign x => vl (ev N G s.env x)
 | .pick c a b => match ev N G s.env c with | .bool t => vl (bif t then ev N G s.env a else ev N G s.env b) | _ => none
 | .binOp op t x y _ => vo (bn P t op (ev N G s.env x) (ev N G s.env y))
 | .unOp op _ x => vo (un op (ev N G s.env x))
 | .convert a b x => vo (cvt P s.H a b (ev N G s.env x))
 | .extract x i => match ev N G s.env x with | .tup vs => vo vs[i]? | _ => none
 | .field t x f => match fdS P t f with | some (o, g, n) => (match ev N G s.env x with | .agg cs => vo (part (.agg cs) o g n) | _ => none) | none => none
 | .index t x i => vo (idx P t (ev N G s.env x) (ev N G s.env i))
 | .indexAddr t x i => vo (idxA P s.H t (ev N G s.env x) (ev N G s.env i))
 | .fieldAddr t x f => vo (ptrFd P t f (ev N G s.env x))
 | .slice t x lo hi none => vo (cut P s.H t (ev N G s.env x) (lo.map (ev N G s.env)) (hi.map (ev N G s.env)))
 | .load ty p => vo (ldX P s ty (ev N G s.env p))
 | .nilCheck x => vo (nlC (ev N G s.env x))
 | .store ty p x => st P s.H s.fr ty (ev N G s.env p) (ev N G s.env x)
 | .alloc ty => match kd P ty with
  | some (g, n) => need ((s.H (tg d 0)).isNone && sizedAs n (zv P ty) && decide (0 < n)) (some { val := .optr (tg d 0) 0 0, new := [⟨ty, n, zv P ty, [zv P ty]⟩] })
  | none => none
 | .box ty x => match kd P ty, deep s.H (ev N G s.env x) with
  | some (g, n), some y => need ((s.H (tg d 0)).isNone && sizedAs n y && decide (0 < n) && tagOk (tags (ev N G s.env x))) (some { val := .optr (tg d 0) 0 0, new := [⟨ty, n, zv P ty, [y]⟩], fz := tags (ev N G s.env x) })
  | _, _ => none
 | .build t ps => vo (mkAgg P t (ps.toList.map fun p => (p.1, ev N G s.env p.2)))
 | .buildSlice t n ps => match elS P t, litRow n (ps.toList.map fun p => (p.1, ev N G s.env p.2)) with
  | some (el, sz, _, z), some xs => match deepAll s.H xs with
   | some ys => need ((s.H (tg d 0)).isNone && ys.all (sizedAs sz) && decide (0 < sz) && decide (n * sz ≤ 16777216) && tagOk (xs.flatMap tags)) (some { val := .own (tg d 0) 0 n, new := [⟨el, sz, z, ys⟩], fz := xs.flatMap tags })
   | none => none
  | _, _ => none
 | .makeSlice t l c => match elS P t, ev N G s.env l, ev N G s.env c with
  | some (el, sz, by_, z), .int .i64 n, .int .i64 m => need (decide (n ≤ m)) (need (decide (0 ≤ n)) (need (decide (m.toNat ≤ 281474976710656 / by_)) (need ((s.H (tg d 0)).isNone && sizedAs sz z && decide (0 < sz)) (some { val := .own (tg d 0) 0 n.toNat, new := [⟨el, sz, z, List.replicate n.toNat z⟩] }))))
  | _, _, _ => none
 | .call { callee := .builtin .len, args, argTypes } => match args.toList, argTypes.toList with
  | [x], [t] => vo (lenV P t (ev N G s.env x))
  | _, _ => none
 | .call { callee := .builtin .copy, args, argTypes } => match args.toList, argTypes.toList with
  | [x, y], [t, _] => cpA P s.H s.fr t (ev N G s.env x) (ev N G s.env y)
  | _, _ => none
 | .call { callee := .builtin .min, args, .. } => match args.toList with
  | [x, y] => match ev N G s.env x, ev N G s.env y with
   | .int k a, .int _ b => vl (.int k (if b < a then b else a))
   | _, _ => none
  | _ => none
 | .call { callee := .builtin .max, args, .. } => match args.toList with
  | [x, y] => match ev N G s.env x, ev N G s.env y with
   | .int k a, .int _ b => vl (.int k (if b > a then b else a))
   | _, _ => none
  | _ => none
 | _ => none
def newH (H : Nat → Option Row) (b : Nat) : List Row → Nat → Option Row
 | [] => H
 | r :: rs => newH (upd H b (some r)) (b + 1) rs
def newF (f : Nat → Bool) (b : Nat) : List Row → Nat → Bool
 | [] => f
 | _ :: rs => newF (upd f b false) (b + 1) rs
def putW (H : Nat → Option Row) : List (Nat × Row) → Nat → Option Row
 | [] => H
 | p :: l => putW (upd H p.1 (some p.2)) l
def frz (f : Nat → Bool) : List Nat → Nat → Bool
 | [] => f
 | t :: l => frz (upd f t true) l
def St.app (s : St) (dst : Option Nat) (e : Eff) : St :=
 match dst with
 | some d => { s with env := upd s.env d e.val, H := newH (putW s.H e.wr) (tg d 0) e.new, fr := newF (frz s.fr e.fz) (tg d 0) e.new, x := e.xs.getD s.x }
 | none => { s with H := putW s.H e.wr, fr := frz s.fr e.fz, x := e.xs.getD s.x }
def killS (t : Nat) : AV → AV
 | .own t' off n => if t' = t then .dead else .own t' off n
 | .optr t' i o => if t' = t then .dead else .optr t' i o
 | .agg _ => .dead
 | .tup _ => .dead
 | .lk x v => .lk (killS t x) v
 | x => x
def killA (t : Nat) : AV → AV
 | .agg cs => .agg (cs.map (killS t))
 | x => killS t x
def killV (t : Nat) : AV → AV
 | .tup cs => .tup (cs.map (killA t))
 | x => killA t x
def kl (t : Nat) (env : Nat → AV) : Nat → AV := fun i => killV t (env i)
theorem kl_apply (t : Nat) (env : Nat → AV) (i : Nat) : kl t env i = killV t (env i) := rfl
def srcN (H : Nat → Option Row) (sz : Nat) (y : AV) : Option (List AV) :=
 match deepS H y with
 | some (.sl s _ ys) => need (decide (s = sz)) (some ys)
 | some .nil => some []
 | _ => none
def apA (P : Program) (s : St) (d : Nat) (t : TypeId) (x y : AV) : Option St :=
 match elS P t with
 | some (el, sz, bt, z) => match srcN s.H sz y with
  | some ys => match x with
   | .nil => need ((s.H (tg d 0)).isNone && decide (0 < sz) && sizedAs sz z) (need (decide (ys.length ≤ 9223372036854775807)) (need (decide (ys.length * bt ≤ 140737488355328))
     (some { s with env := upd s.env d (.own (tg d 0) 0 ys.length), H := upd s.H (tg d 0) (some ⟨el, sz, z, ys⟩), fr := upd s.fr (tg d 0) false })))
   | .own t' off n => match s.H t' with
    | some r => need ((s.H (tg d 0)).isNone && decide (0 < sz) && sizedAs sz z && decide (off = 0) && decide (r.s = sz) && decide (r.e = el) && !s.fr t' && decide (16 ≤ t') && decide (t' ≠ tg d 0))
      (need (decide (n + ys.length ≤ 9223372036854775807)) (need (decide ((n + ys.length) * bt ≤ 140737488355328))
       (some { s with env := upd (kl t' s.env) d (.own (tg d 0) 0 (n + ys.length)), H := upd (upd s.H t' none) (tg d 0) (some ⟨el, sz, z, r.xs.take n ++ ys⟩), fr := upd s.fr (tg d 0) false })))
    | none => none
   | _ => none
  | none => none
 | none => none
end Go.Proofs.YtpchdjdochkjpaaGreatDoor.Am
set_option linter.unusedVariables false
set_option linter.unusedSimpArgs false
namespace Go.Proofs.YtpchdjdochkjpaaGreatDoor.Am
open Go Go.RowKit
section
variable {w : World} {fz : Nat → Prop} {β : Nat → Option Own} {dm : Nat → Option Nat}
theorem V.int_inv {k : IntKind} {n : Int} {v : Value} (h : V w fz β dm (.int k n) v) : v = .int k n := by cases h with | f _ _ h => cases h; rfl
theorem V.bool_inv {b : Bool} {v : Value} (h : V w fz β dm (.bool b) v) : v = .bool b := by cases h with | f _ _ h => cases h; rfl
theorem V.str_inv {s : ByteArray} {v : Value} (h : V w fz β dm (.str s) v) : v = .string s := by cases h with | f _ _ h => cases h; rfl
theorem V.nil_inv {v : Value} (h : V w fz β dm .nil v) : v = .slice none 0 0 := by cases h with | f _ _ h => cases h; rfl
theorem V.sl_inv {s : Nat} {z : AV} {xs : List AV} {v : Value} (h : V w fz β dm (.sl s z xs) v) : F w fz (.sl s z xs) v := by cases h with | f _ _ h => exact h
theorem V.fptr_inv {x : AV} {v : Value} (h : V w fz β dm (.fptr x) v) : F w fz (.fptr x) v := by cases h with | f _ _ h => exact h
theorem V.tup_inv {cs : List AV} {v : Value} (h : V w fz β dm (.tup cs) v) : ∃ vs : List Value, v = .tuple vs.toArray ∧ vs.length = cs.length ∧ ∀ (i : Nat) (x : AV) (v : Value), cs[i]? = some x → vs[i]? = some v → V w fz β dm x v := by
 cases h with
 | f _ _ h => cases h
 | tup _ vs hl h => exact ⟨vs, rfl, hl, h⟩
theorem V.agg_inv {cs : List AV} {v : Value} (h : V w fz β dm (.agg cs) v) : ∃ vs : List Value, v = .agg vs.toArray ∧ vs.length = cs.length ∧ ∀ (i : Nat) (x : AV) (v : Value), cs[i]? = some x → vs[i]? = some v → V w fz β dm x v := by
 cases h with
 | f _ _ h => cases h with | agg _ vs hl hs h => exact ⟨vs, rfl, hl, fun i x v h1 h2 => .f _ _ (h i x v h1 h2)⟩
 | agg _ vs hl h => exact ⟨vs, rfl, hl, h⟩
theorem F.agg_inv {cs : List AV} {v : Value} (h : F w fz (.agg cs) v) : ∃ vs : List Value, v = .agg vs.toArray ∧ vs.length = cs.length ∧ (∀ x ∈ cs, x.scalar = true) ∧ ∀ (i : Nat) (x : AV) (v : Value), cs[i]? = some x → vs[i]? = some v → F w fz x v := by
 cases h with | agg _ vs hl hs h => exact ⟨vs, rfl, hl, hs, h⟩
theorem F.one {x : AV} {v : Value} (h : F w fz x v) (hs : x.scalar = true) : v.cells = #[v] ∧ v.oneCell' = true := by
 cases h <;> first | exact ⟨rfl, rfl⟩ | exact ⟨‹_›, ‹_›⟩ | simp [AV.scalar] at hs
theorem F.cells_one {x : AV} {v : Value} (h : F w fz x v) : ∀ c ∈ v.cells, c.oneCell' = true := by
 cases h with
 | agg cs vs hl hs h =>
  intro c hc
  simp only [Value.cells] at hc
  obtain ⟨i, hi, rfl⟩ := List.getElem_of_mem (by simpa using hc : c ∈ vs)
  have hic : i < cs.length := by omega
  exact ((h i cs[i] vs[i] (by simp [hic]) (by simp [hi])).one (hs _ (List.getElem_mem hic))).2
 | raw v h1 h2 => intro c hc; rw [h1] at hc; simp at hc; subst hc; exact h2
 | _ => intro c hc; simp only [Value.cells] at hc; simp at hc; subst hc; rfl
end
theorem cavS_V {w : World} {fz : Nat → Prop} {β : Nat → Option Own} {dm : Nat → Option Nat} (v : Value) : V w fz β dm (cavS v) v := by
 unfold cavS
 split
 ·exact .f _ _ (.int _ _)
 ·exact .f _ _ (.bool _)
 ·exact .f _ _ (.str _)
 ·exact .f _ _ .nil
 ·exact .f _ _ (.raw _ rfl rfl)
 ·exact .f _ _ (.raw _ rfl rfl)
 ·exact .dead _
theorem cav_V {w : World} {fz : Nat → Prop} {β : Nat → Option Own} {dm : Nat → Option Nat} (v : Value) : V w fz β dm (cav v) v := by
 unfold cav
 split
 ·rename_i vs
  have := V.agg (w := w) (fz := fz) (β := β) (dm := dm) (vs.toList.map cavS) vs.toList (by simp) (fun i x v h1 h2 => by
   rw [List.getElem?_map, h2] at h1
   obtain rfl := Option.some.inj h1
   exact cavS_V v)
  simpa using this
 ·exact cavS_V v
theorem ev_V {X : Cx} {s : St} {fz : Nat → Prop} {β : Nat → Option Own} {a : Act} {w : World} (h : Rel X s fz β a w) (x : Operand) : V w fz β s.dm (ev X.N X.G s.env x) (a.eval x) := by
 cases x with
 | tmp t =>
  simp only [ev, Act.eval]
  by_cases ht : t < X.N
  ·simp only [ht, decide_true, cond_true]; exact h.tm t ht
  ·simp only [ht, decide_false, cond_false]; exact .dead _
 | const v => exact cav_V v
 | global g =>
  simp only [ev, Act.eval]
  by_cases hg : X.G g = .dead
  ·rw [hg]; exact .dead _
  ·exact .f _ _ (h.gl g hg)
 | func f => exact .f _ _ (.fn f)
section
variable {P : Program}
theorem kd_some {ty : TypeId} {g : Bool} {n : Nat} (h : kd P ty = some (g, n)) : ∃ d i, P.underlying ty = some d ∧ P.info? ty = some i ∧ isAg d = g ∧ i.size = n := by
 unfold kd at h
 split at h
 ·rename_i d i h1 h2
  simp only [Option.some.injEq, Prod.mk.injEq] at h
  exact ⟨d, i, h1, h2, h.1, h.2⟩
 ·cases h
theorem run_typeInfo' {t : TypeId} {i : TypeInfo} (h : P.info? t = some i) (w : World) : (typeInfo t).run P w = .ok i w := by
 unfold typeInfo; simp [h]
theorem run_sizeOf' {t : TypeId} {i : TypeInfo} (h : P.info? t = some i) (w : World) : (sizeOf t).run P w = .ok i.size w := by
 unfold sizeOf; rw [Sem.run_bind, run_typeInfo' h]; rfl
theorem run_isAgg' {t : TypeId} {d : TypeDesc} (h : P.underlying t = some d) (w : World) : (isAgg t).run P w = .ok (isAg d) w := by
 unfold isAgg
 rw [Sem.run_bind, run_underlying h w]
 cases d <;> rfl
theorem run_zeroValue' {t : TypeId} {i : TypeInfo} {z : Value} (h : P.info? t = some i) (hz : i.zero = some z) (w : World) : (zeroValue t).run P w = .ok z w := by
 unfold zeroValue; rw [Sem.run_bind, run_typeInfo' h]; simp [hz]
theorem elS_some {t e s b : Nat} {z : AV} (h : elS P t = some (e, s, b, z)) : ∃ i zv, P.underlying t = some (.slice e) ∧ P.info? e = some i ∧ i.zero = some zv ∧ i.size = s ∧ i.bytes = b ∧ cav zv = z := by
 unfold elS at h
 split at h
 ·rename_i e' h1
  split at h
  ·rename_i i h2
   split at h
   ·rename_i z' h3
    simp only [Option.some.injEq, Prod.mk.injEq] at h
    obtain ⟨rfl, rfl, rfl, rfl⟩ := h
    exact ⟨i, z', h1, h2, h3, rfl, rfl, rfl⟩
   ·cases h
  ·cases h
 ·cases h
theorem arS_some {t n s : Nat} {g : Bool} {z : AV} (h : arS P t = some (n, g, s, z)) : ∃ e, P.underlying t = some (.array n e) ∧ kd P e = some (g, s) := by
 unfold arS at h
 split at h
 ·rename_i n' e h1
  split at h
  ·rename_i b s' h2
   simp only [Option.some.injEq, Prod.mk.injEq] at h
   obtain ⟨rfl, rfl, rfl, _⟩ := h
   exact ⟨e, h1, h2⟩
  ·cases h
 ·cases h
theorem fdS_some {t f o n : Nat} {g : Bool} (h : fdS P t f = some (o, g, n)) : ∃ fs q, P.underlying t = some (.struct fs) ∧ fs[f]? = some q ∧ q.offset = o ∧ kd P q.type = some (g, n) := by
 unfold fdS at h
 split at h
 ·rename_i fs h1
  split at h
  ·rename_i q h2
   split at h
   ·rename_i b s h3
    simp only [Option.some.injEq, Prod.mk.injEq] at h
    obtain ⟨rfl, rfl, rfl⟩ := h
    exact ⟨fs, q, h1, h2, rfl, h3⟩
   ·cases h
  ·cases h
 ·cases h
theorem kn_int {t : TypeId} {k : IntKind} (h : kn P t = .int k) : P.underlying t = some (.int k) := by unfold kn at h; split at h <;> first | cases h; assumption | cases h
theorem kn_bool {t : TypeId} (h : kn P t = .bool) : P.underlying t = some .bool := by unfold kn at h; split at h <;> first | assumption | cases h
theorem kn_str {t : TypeId} (h : kn P t = .str) : P.underlying t = some .string := by unfold kn at h; split at h <;> first | assumption | cases h
theorem kn_slice {t e : TypeId} (h : kn P t = .slice e) : P.underlying t = some (.slice e) := by unfold kn at h; split at h <;> first | cases h; assumption | cases h
end
theorem need_some {α : Type} {b : Bool} {x : Option α} {y : α} (h : need b x = some y) : b = true ∧ x = some y := by
 cases b
 ·cases h
 ·exact ⟨rfl, h⟩
theorem addr_add (b o n : Nat) : (⟨b, o, none⟩ : Addr).add n = ⟨b, o + n, none⟩ := by
 unfold Addr.add
 split
 ·rename_i h; simp [h]
 ·rfl
theorem part_V {w : World} {fz : Nat → Prop} {β : Nat → Option Own} {dm : Nat → Option Nat} {x : AV} {v : Value} (h : V w fz β dm x v) {o n : Nat} {g : Bool} {y : AV} (hp : part x o g n = some y)
  (hx : x.scalar = true → ∃ z, x = z ∧ v.cells = #[v]) : ∃ u, V w fz β dm y u ∧ ((g = true ∧ ∃ vs : Array Value, v = .agg vs ∧ o + n ≤ vs.size ∧ u = .agg (vs.extract o (o + n))) ∨ (g = false ∧ ∃ c, v.cells[o]? = some c ∧ u = c)) := by
 unfold part at hp
 split at hp
 ·rename_i cs
  obtain ⟨vs, rfl, hl, hV⟩ := h.agg_inv
  cases g
  ·simp only [cond_false] at hp
   have ho : o < cs.length := by
    rcases Nat.lt_or_ge o cs.length with h | h
    ·exact h
    ·rw [List.getElem?_eq_none h] at hp; cases hp
   have hov : o < vs.length := by omega
   exact ⟨vs[o], hV o y vs[o] hp (by simp [hov]), .inr ⟨rfl, vs[o], by simp [Value.cells, hov], rfl⟩⟩
  ·simp only [cond_true] at hp
   obtain ⟨h1, h2⟩ := need_some hp
   obtain rfl := Option.some.inj h2
   have h1' := of_decide_eq_true h1
   refine ⟨.agg (vs.toArray.extract o (o + n)), ?_, .inl ⟨rfl, vs.toArray, rfl, by simp; omega, rfl⟩⟩
   have := V.agg (w := w) (fz := fz) (β := β) (dm := dm) ((cs.drop o).take n) ((vs.drop o).take n) (by simp; omega) (fun i x v h1 h2 => by
    rw [List.getElem?_take] at h1 h2
    split at h1
    ·rename_i hi
     rw [if_pos hi] at h2
     rw [List.getElem?_drop] at h1 h2
     exact hV _ x v h1 h2
    ·cases h1)
   have e : vs.toArray.extract o (o + n) = ((vs.drop o).take n).toArray := by
    apply Array.ext'
    simp [List.extract_eq_take_drop]
   rw [e]; exact this
 ·obtain ⟨h1, h2⟩ := need_some hp
  obtain rfl := Option.some.inj h2
  simp only [Bool.and_eq_true, Bool.not_eq_true', decide_eq_true_eq] at h1
  obtain ⟨⟨hs, hg⟩, rfl⟩ := h1
  obtain ⟨_, _, hc⟩ := hx hs
  exact ⟨v, h, .inr ⟨hg, v, by rw [hc]; rfl, rfl⟩⟩
theorem part_F {w : World} {fz : Nat → Prop} {x : AV} {v : Value} (h : F w fz x v) {o n : Nat} {g : Bool} {y : AV} (hp : part x o g n = some y) :
  ∃ u, F w fz y u ∧ ((g = true ∧ ∃ vs : Array Value, v = .agg vs ∧ o + n ≤ vs.size ∧ u = .agg (vs.extract o (o + n))) ∨ (g = false ∧ y.scalar = true ∧ ∃ c, v.cells[o]? = some c ∧ u = c)) := by
 unfold part at hp
 split at hp
 ·rename_i cs
  obtain ⟨vs, rfl, hl, hs, hV⟩ := h.agg_inv
  cases g
  ·simp only [cond_false] at hp
   have ho : o < cs.length := by
    rcases Nat.lt_or_ge o cs.length with h | h
    ·exact h
    ·rw [List.getElem?_eq_none h] at hp; cases hp
   have hov : o < vs.length := by omega
   exact ⟨vs[o], hV o y vs[o] hp (by simp [hov]), .inr ⟨rfl, hs y (List.mem_of_getElem? hp), vs[o], by simp [Value.cells, hov], rfl⟩⟩
  ·simp only [cond_true] at hp
   obtain ⟨h1, h2⟩ := need_some hp
   obtain rfl := Option.some.inj h2
   have h1' := of_decide_eq_true h1
   refine ⟨.agg (vs.toArray.extract o (o + n)), ?_, .inl ⟨rfl, vs.toArray, rfl, by simp; omega, rfl⟩⟩
   have := F.agg (w := w) (fz := fz) ((cs.drop o).take n) ((vs.drop o).take n) (by simp; omega) (fun x hx => hs x (List.mem_of_mem_drop (List.mem_of_mem_take hx))) (fun i x v h1 h2 => by
    rw [List.getElem?_take] at h1 h2
    split at h1
    ·rename_i hi
     rw [if_pos hi] at h2
     rw [List.getElem?_drop] at h1 h2
     exact hV _ x v h1 h2
    ·cases h1)
   have e : vs.toArray.extract o (o + n) = ((vs.drop o).take n).toArray := by
    apply Array.ext'
    simp [List.extract_eq_take_drop]
   rw [e]; exact this
 ·obtain ⟨h1, h2⟩ := need_some hp
  obtain rfl := Option.some.inj h2
  simp only [Bool.and_eq_true, Bool.not_eq_true', decide_eq_true_eq] at h1
  obtain ⟨⟨hs, hg⟩, rfl⟩ := h1
  exact ⟨v, h, .inr ⟨hg, hs, v, by rw [(h.one hs).1]; rfl, rfl⟩⟩
theorem run_load_cells {P : Program} {ty : TypeId} {g : Bool} {n : Nat} (hk : kd P ty = some (g, n)) (b o : Nat) (w : World) (u : Value)
  (hu : (g = true ∧ ∃ vs : Array Value, u = .agg vs ∧ vs.size = n ∧ ∀ (j : Nat) c, vs[j]? = some c → w.cell? ⟨b, o + j, none⟩ = some c) ∨ (g = false ∧ w.cell? ⟨b, o, none⟩ = some u)) :
  (Instr.loadAt ty (.pointer (some ⟨b, o, none⟩))).run P w = .ok u w := by
 obtain ⟨d, i, h1, h2, h3, h4⟩ := kd_some hk
 unfold Instr.loadAt Instr.sureAddr loadVar
 simp only [pure_bind]
 rw [Sem.run_bind, run_isAgg' h1, h3]
 rcases hu with ⟨rfl, vs, rfl, hs, hc⟩ | ⟨rfl, hc⟩
 ·have hl := run_loadCells_list (P := P) w ⟨b, o, none⟩ vs.toList (fun j v hv => by rw [addr_add]; exact hc j v (by simpa using hv))
  simp only [Array.length_toList, hs, Array.toArray_toList] at hl
  simp [Result.andThen, run_sizeOf' h2, h4, hl]
 ·simp [Result.andThen, hc]
theorem ld_V {X : Cx} {s : St} {fz : Nat → Prop} {β : Nat → Option Own} {a : Act} {w : World} (h : Rel X s fz β a w) {ty : TypeId} {p y : AV} {v : Value} (hv : V w fz β s.dm p v) (hl : ld X.P s.H ty p = some y) :
  ∃ u, (Instr.loadAt ty v).run X.P w = .ok u w ∧ F w fz y u := by
 unfold ld at hl
 split at hl
 ·rename_i g n x hk
  cases hv.fptr_inv with
  | fptr _ u a' hF hc hsp hf =>
   have ha : a' = ⟨a'.block, a'.off, none⟩ := by cases a'; simp at hsp; simp [hsp]
   rw [ha]
   split at hl
   ·rename_i cs
    obtain ⟨h1, h2⟩ := need_some hl
    obtain rfl := Option.some.inj h2
    simp only [Bool.and_eq_true, decide_eq_true_eq] at h1
    obtain ⟨vs, rfl, hlv, _, _⟩ := hF.agg_inv
    exact ⟨_, run_load_cells hk _ _ w _ (.inl ⟨h1.1, vs.toArray, rfl, by simp; omega, fun j c hj => hc j c hj⟩), hF⟩
   ·obtain ⟨h1, h2⟩ := need_some hl
    obtain rfl := Option.some.inj h2
    simp only [Bool.and_eq_true, Bool.not_eq_true'] at h1
    exact ⟨u, run_load_cells hk _ _ w _ (.inr ⟨h1.2, by have := hc 0 u (by rw [(hF.one h1.1).1]; rfl); simpa using this⟩), hF⟩
 ·rename_i g n t i o hk
  split at hl
  ·rename_i r hr
   cases hv with
   | f _ _ hf => cases hf
   | optr _ _ _ ow m hd hb hn =>
    have hR := h.rw t r hr
    unfold RowOk at hR
    rw [hb] at hR
    obtain ⟨e1, e2, e3, e4, cur, us, e5, e6, e7, e8, e9, e10⟩ := hR
    have hm : m = r.xs.length := by simp [St.dm, hr] at hd; exact hd.symm
    subst hm
    have hiu : i < us.length := by omega
    have hx : r.xs.getD i .dead = r.xs[i] := by simp [hn]
    rw [hx] at hl
    have hF := e8 i r.xs[i] us[i] (by simp [hn]) (by simp [hiu])
    obtain ⟨u, hu, hcase⟩ := part_F hF hl
    refine ⟨u, run_load_cells hk _ _ w _ ?_, hu⟩
    rcases hcase with ⟨hg, vs, hvs, hon, rfl⟩ | ⟨hg, hs, c, hc, rfl⟩
    ·refine .inl ⟨hg, _, rfl, by simp; omega, fun j c hj => ?_⟩
     have hcc := e10 i us[i] (o + j) c (by simp [hiu]) (by
      rw [hvs]
      simp only [Value.cells]
      rw [Array.getElem?_extract] at hj
      split at hj
      ·exact hj
      ·cases hj)
     rw [cell_of_row w _ _ _ _ _ e5, e1, show i * r.s + o + j = i * r.s + (o + j) by omega]
     exact hcc
    ·refine .inr ⟨hg, ?_⟩
     rw [cell_of_row w _ _ _ _ _ e5, e1]
     exact e10 i us[i] o u (by simp [hiu]) hc
  ·cases hl
 ·cases hl
theorem ldX_V {X : Cx} {s : St} {fz : Nat → Prop} {β : Nat → Option Own} {a : Act} {w : World} (h : Rel X s fz β a w) {ty : TypeId} {p y : AV} {v : Value} (hv : V w fz β s.dm p v) (hl : ldX X.P s ty p = some y) :
  ∃ u, (Instr.loadAt ty v).run X.P w = .ok u w ∧ F w fz y u := by
 unfold ldX at hl
 split at hl
 ·rename_i ad
  split at hl
  ·rename_i g n hk
   obtain ⟨h1, hl⟩ := need_some hl
   split at hl
   ·rename_i u hr
    obtain rfl := Option.some.inj hl
    have hg : g = false := by simpa using h1
    subst hg
    obtain ⟨e1, e2, e3, e4⟩ := s.x.rdok h.xo.1 hr
    have hv' : v = .pointer (some ad) := by cases hv with | f _ _ hf => cases hf; rfl
    subst hv'
    have ha : ad = ⟨ad.block, ad.off, none⟩ := by cases ad; simp at e1; simp [e1]
    rw [ha] at e2 ⊢
    exact ⟨u, run_load_cells hk _ _ w _ (.inr ⟨rfl, e2⟩), .raw u e3 e4⟩
   ·cases hl
  ·cases hl
 ·exact ld_V h hv hl
def mkV (g : Bool) (cs : List Value) : Value := bif g then .agg cs.toArray else cs.getD 0 undef
def eqV : Kn → Value → Value → Option Bool
 | .int k, .int k1 a, .int k2 b => bif decide (k1 = k) && decide (k2 = k) then some (decide (a = b)) else none
 | .bool, .bool a, .bool b => some (a == b)
 | .str, .string a, .string b => some (decide (a.toList = b.toList))
 | _, _, _ => none
def eqC : List Kn → List Value → List Value → Option Bool
 | [], [], [] => some true
 | k :: ks, x :: xs, y :: ys => match eqV k x y, eqC ks xs ys with | some a, some b => some (a && b) | _, _ => none
 | _, _, _ => none
theorem eqC_cons {k : Kn} {ks : List Kn} {xs ys : List Value} {r : Bool} (h : eqC (k :: ks) xs ys = some r) : ∃ x xs' y ys' a b, xs = x :: xs' ∧ ys = y :: ys' ∧ eqV k x y = some a ∧ eqC ks xs' ys' = some b ∧ r = (a && b) := by
 rcases xs with _ | ⟨x, xs⟩
 ·simp [eqC] at h
 rcases ys with _ | ⟨y, ys⟩
 ·simp [eqC] at h
 simp only [eqC] at h
 split at h
 ·rename_i a b h1 h2
  exact ⟨x, xs, y, ys, a, b, rfl, rfl, h1, h2, (Option.some.inj h).symm⟩
 ·cases h
theorem eqC_nil {xs ys : List Value} {r : Bool} (h : eqC [] xs ys = some r) : xs = [] ∧ ys = [] ∧ r = true := by
 rcases xs with _ | ⟨x, xs⟩ <;> rcases ys with _ | ⟨y, ys⟩ <;> simp [eqC] at h ⊢
 exact h
theorem eqC_len : ∀ {ks : List Kn} {xs ys : List Value} {r : Bool}, eqC ks xs ys = some r → xs.length = ks.length ∧ ys.length = ks.length
 | [], xs, ys, r, h => by obtain ⟨rfl, rfl, _⟩ := eqC_nil h; exact ⟨rfl, rfl⟩
 | k :: ks, xs, ys, r, h => by
  obtain ⟨x, xs', y, ys', a, b, rfl, rfl, _, h2, _⟩ := eqC_cons h
  obtain ⟨h3, h4⟩ := eqC_len h2
  simp [h3, h4]
theorem eqC_append : ∀ {ks ks' : List Kn} {xs ys : List Value} {r : Bool}, eqC (ks ++ ks') xs ys = some r → ∃ r1 r2, eqC ks (xs.take ks.length) (ys.take ks.length) = some r1 ∧ eqC ks' (xs.drop ks.length) (ys.drop ks.length) = some r2 ∧ r = (r1 && r2)
 | [], ks', xs, ys, r, h => ⟨true, r, by simp [eqC], by simpa using h, by simp⟩
 | k :: ks, ks', xs, ys, r, h => by
  obtain ⟨x, xs', y, ys', a, b, rfl, rfl, h1, h2, rfl⟩ := eqC_cons h
  obtain ⟨r1, r2, g1, g2, rfl⟩ := eqC_append h2
  exact ⟨a && r1, r2, by simp [eqC, h1, g1], by simpa using g2, by simp [Bool.and_assoc]⟩
theorem part_mkV {P : Program} {e : TypeId} {g : Bool} {n o : Nat} (hk : kd P e = some (g, n)) (hn : 0 < n ∨ g = true) (xs : List Value) (hl : o + n ≤ xs.length) (w : World) : (Go.part e xs.toArray o).run P w = .ok (mkV g ((xs.drop o).take n)) w := by
 obtain ⟨d, i, h1, h2, h3, h4⟩ := kd_some hk
 unfold Go.part
 rw [Sem.run_bind, run_isAgg' h1, h3]
 cases g
 ·have hn : 0 < n := hn.resolve_right (by simp)
  have ho : o < xs.length := by omega
  simp [Result.andThen, mkV, ho, hn, List.getElem?_take]
 ·simp [Result.andThen, run_sizeOf' h2, h4, mkV, List.extract_eq_take_drop]
def EqOk (P : Program) (d : Nat) (rec : TypeId → Option (List Kn)) : Prop := ∀ (t : TypeId) (ks : List Kn), rec t = some ks → ∃ g, kd P t = some (g, ks.length) ∧ (0 < ks.length ∨ g = true) ∧
 ∀ (w : World) (xs ys : List Value) (r : Bool), eqC ks xs ys = some r → (Op.equalIn d t (mkV g xs) (mkV g ys)).run P w = .ok r w
theorem eqFs_ok {P : Program} {d : Nat} {rec : TypeId → Option (List Kn)} (hrec : EqOk P d rec) (w : World) (xs ys : List Value) : ∀ (fs : List Field) (o : Nat) (ks : List Kn) (r : Bool), eqF P rec o fs = some ks → eqC ks (xs.drop o) (ys.drop o) = some r → (Op.eqFields d xs.toArray ys.toArray fs).run P w = .ok r w
 | [], o, ks, r, h, hc => by
  simp only [eqF, Option.some.injEq] at h
  subst h
  obtain ⟨h1, h2⟩ := eqC_len hc
  rw [List.eq_nil_of_length_eq_zero h1, List.eq_nil_of_length_eq_zero h2] at hc
  obtain rfl := Option.some.inj hc
  simp [Op.eqFields]
 | f :: fs, o, ks, r, h, hc => by
  simp only [eqF] at h
  split at h
  ·rename_i k1 hk1
   simp only [cond_eq_ite] at h
   split at h
   ·rename_i hn
    split at h
    ·rename_i k2 hk2
     obtain rfl := Option.some.inj h
     simp only [Bool.and_eq_true, bne_iff_ne, ne_eq, beq_iff_eq] at hn
     obtain ⟨r1, r2, c1, c2, rfl⟩ := eqC_append hc
     obtain ⟨g, hkd, hz, hrun⟩ := hrec f.type k1 hk1
     obtain ⟨l1, l2⟩ := eqC_len c1
     simp only [List.length_take, List.length_drop] at l1 l2
     have p1 : (Go.part f.type xs.toArray f.offset).run P w = .ok (mkV g ((xs.drop o).take k1.length)) w := by
      rw [hn.2]
      rcases Nat.eq_zero_or_pos k1.length with h0 | h0
      ·rcases Nat.le_total o xs.length with hle | hle
       ·exact part_mkV hkd hz xs (by omega) w
       ·have hg := hz.resolve_left (by omega)
        subst hg
        obtain ⟨d', i, q1, q2, q3, q4⟩ := kd_some hkd
        unfold Go.part
        rw [Sem.run_bind, run_isAgg' q1, q3]
        simp [Result.andThen, run_sizeOf' q2, q4, mkV, h0]
      ·exact part_mkV hkd hz xs (by omega) w
     have p2 : (Go.part f.type ys.toArray f.offset).run P w = .ok (mkV g ((ys.drop o).take k1.length)) w := by
      rw [hn.2]
      rcases Nat.eq_zero_or_pos k1.length with h0 | h0
      ·rcases Nat.le_total o ys.length with hle | hle
       ·exact part_mkV hkd hz ys (by omega) w
       ·have hg := hz.resolve_left (by omega)
        subst hg
        obtain ⟨d', i, q1, q2, q3, q4⟩ := kd_some hkd
        unfold Go.part
        rw [Sem.run_bind, run_isAgg' q1, q3]
        simp [Result.andThen, run_sizeOf' q2, q4, mkV, h0]
      ·exact part_mkV hkd hz ys (by omega) w
     have ih := eqFs_ok hrec w xs ys fs (o + k1.length) k2 r2 hk2 (by rw [← List.drop_drop, ← List.drop_drop]; exact c2)
     simp only [Op.eqFields, if_pos hn.1, Sem.run_bind, p1, p2, hrun w _ _ _ c1, Result.andThen_ok]
     cases r1
     ·simp
     ·simpa using ih
    ·cases h
   ·cases h
  ·cases h
theorem eqIt_ok {P : Program} {d n : Nat} {e : TypeId} {g : Bool} {ks : List Kn} (hkd : kd P e = some (g, ks.length)) (hz : 0 < ks.length ∨ g = true) (w : World) (xs ys : List Value)
  (hrun : ∀ (w : World) (xs ys : List Value) (r : Bool), eqC ks xs ys = some r → (Op.equalIn d e (mkV g xs) (mkV g ys)).run P w = .ok r w) : ∀ (n i : Nat) (r : Bool), i * ks.length ≤ xs.length → i * ks.length ≤ ys.length → eqC (List.replicate n ks).flatten (xs.drop (i * ks.length)) (ys.drop (i * ks.length)) = some r →
   (Op.eqItems d e ks.length xs.toArray ys.toArray (List.range' i n)).run P w = .ok r w
 | 0, i, r, _, _, hc => by
  obtain ⟨h1, h2⟩ := eqC_len hc
  simp only [List.replicate_zero, List.flatten_nil] at hc h1 h2
  rw [List.eq_nil_of_length_eq_zero h1, List.eq_nil_of_length_eq_zero h2] at hc
  obtain rfl := Option.some.inj hc
  simp [Op.eqItems]
 | n + 1, i, r, hx, hy, hc => by
  rw [List.replicate_succ, List.flatten_cons] at hc
  obtain ⟨r1, r2, c1, c2, rfl⟩ := eqC_append hc
  obtain ⟨l1, l2⟩ := eqC_len c1
  simp only [List.length_take, List.length_drop] at l1 l2
  have p1 := part_mkV hkd hz xs (o := i * ks.length) (by omega) w
  have p2 := part_mkV hkd hz ys (o := i * ks.length) (by omega) w
  have e1 : (i + 1) * ks.length = i * ks.length + ks.length := by rw [Nat.add_mul, Nat.one_mul]
  have ih := eqIt_ok (n := n) hkd hz w xs ys hrun n (i + 1) r2 (by omega) (by omega) (by rw [e1, ← List.drop_drop, ← List.drop_drop]; exact c2)
  rw [List.range'_succ]
  simp only [Op.eqItems, Sem.run_bind, p1, p2, hrun w _ _ _ c1, Result.andThen_ok]
  cases r1
  ·simp
  ·simpa using ih
theorem eqV_run {P : Program} {D : Nat} {t : TypeId} {k : Kn} {x y : Value} {r : Bool} (h : eqV k x y = some r) (w : World) (hu : (∃ q, k = .int q ∧ P.underlying t = some (.int q)) ∨ (k = .bool ∧ P.underlying t = some .bool) ∨ (k = .str ∧ P.underlying t = some .string)) : (Op.equalIn (D + 1) t x y).run P w = .ok r w := by
 unfold eqV at h
 split at h
 ·rename_i q q1 a q2 b
  simp only [cond_eq_ite] at h
  split at h
  ·rename_i hc
   obtain rfl := Option.some.inj h
   simp only [Bool.and_eq_true, decide_eq_true_eq] at hc
   obtain ⟨rfl, rfl⟩ := hc
   rcases hu with ⟨q, e, hu⟩ | ⟨e, hu⟩ | ⟨e, hu⟩
   ·cases e
    rw [run_equalIn_int _ _ _ _ _ _ _ hu]
    congr 1
   ·cases e
   ·cases e
  ·cases h
 ·obtain rfl := Option.some.inj h
  rcases hu with ⟨q, e, hu⟩ | ⟨e, hu⟩ | ⟨e, hu⟩
  ·cases e
  ·exact run_equalIn_bool' _ _ _ _ _ hu
  ·cases e
 ·obtain rfl := Option.some.inj h
  rcases hu with ⟨q, e, hu⟩ | ⟨e, hu⟩ | ⟨e, hu⟩
  ·cases e
  ·cases e
  ·rw [run_equalIn_string _ _ _ _ _ hu]
   congr 1
   rw [Bool.eq_iff_iff]; simp
 ·cases h
theorem eqK_ok {P : Program} (D : Nat) : ∀ d : Nat, EqOk P (D + d) (eqK P d)
 | 0 => fun t ks h => by simp [eqK] at h
 | d + 1 => fun t ks h => by
  have IH := eqK_ok (P := P) D d
  have one : ∀ {k : Kn}, kd P t = some (false, 1) → ks = [k] → ((∃ q, k = .int q ∧ P.underlying t = some (.int q)) ∨ (k = .bool ∧ P.underlying t = some .bool) ∨ (k = .str ∧ P.underlying t = some .string)) →
    ∃ g, kd P t = some (g, ks.length) ∧ (0 < ks.length ∨ g = true) ∧ ∀ (w : World) (xs ys : List Value) (r : Bool), eqC ks xs ys = some r → (Op.equalIn (D + (d + 1)) t (mkV g xs) (mkV g ys)).run P w = .ok r w := by
   intro k hk he hu
   subst he
   refine ⟨false, hk, .inl (by simp), fun w xs ys r hc => ?_⟩
   obtain ⟨x, xs', y, ys', a, b, rfl, rfl, h1, h2, rfl⟩ := eqC_cons hc
   obtain ⟨rfl, rfl, rfl⟩ := eqC_nil h2
   rw [Bool.and_true]
   exact eqV_run h1 w hu
  unfold eqK at h
  split at h
  ·rename_i k hu hk
   exact one hk (Option.some.inj h).symm (.inl ⟨k, rfl, hu⟩)
  ·rename_i hu hk
   exact one hk (Option.some.inj h).symm (.inr (.inl ⟨rfl, hu⟩))
  ·rename_i hu hk
   exact one hk (Option.some.inj h).symm (.inr (.inr ⟨rfl, hu⟩))
  ·rename_i fs n hu hk
   simp only [cond_eq_ite] at h
   split at h
   ·cases h
   ·rename_i hst
    split at h
    ·rename_i ks' hks
     split at h
     ·rename_i hn
      obtain rfl := Option.some.inj h
      have hn : ks'.length = n := by simpa using hn
      subst hn
      refine ⟨true, hk, .inr rfl, fun w xs ys r hc => ?_⟩
      have hfs : P.fieldsOf t = fs := by simp [Program.fieldsOf, hu]
      rw [show D + (d + 1) = (D + d) + 1 from rfl]
      simp only [mkV, cond_true]
      rw [run_equalIn_struct (P := P) w (D + d) t _ _ (by rw [hfs]; exact hu) (by simpa using hst), hfs]
      exact eqFs_ok IH w xs ys fs.toList 0 ks' r hks (by simpa using hc)
     ·cases h
    ·cases h
  ·rename_i m e n hu hk
   split at h
   ·rename_i ks' hks
    simp only [cond_eq_ite] at h
    split at h
    ·rename_i hn
     obtain rfl := Option.some.inj h
     have hn : m * ks'.length = n := by simpa using hn
     subst hn
     have hlen : (List.replicate m ks').flatten.length = m * ks'.length := by simp
     refine ⟨true, by rw [hlen]; exact hk, .inr rfl, fun w xs ys r hc => ?_⟩
     obtain ⟨g, hkd, hz, hrun⟩ := IH e ks' hks
     obtain ⟨dd, i, q1, q2, q3, q4⟩ := kd_some hkd
     rw [show D + (d + 1) = (D + d) + 1 from rfl]
     simp only [mkV, cond_true]
     rw [run_equalIn_array w (D + d) _ _ hu q2]
     have hc0 : P.cellsOf e = ks'.length := by rw [← q4]; simp [Program.cellsOf, q2]
     rw [hc0, List.range_eq_range']
     exact eqIt_ok (n := m) hkd hz w xs ys hrun m 0 r (by simp) (by simp) (by simpa using hc)
    ·cases h
   ·cases h
  ·cases h
theorem eqL_C {w : World} {fz : Nat → Prop} {β : Nat → Option Own} {dm : Nat → Option Nat} : ∀ {ks : List Kn} {xs ys : List AV} {vs us : List Value} {r : Bool}, eqL ks xs ys = some r → vs.length = xs.length → us.length = ys.length →
  (∀ (i : Nat) (x : AV) (v : Value), xs[i]? = some x → vs[i]? = some v → V w fz β dm x v) → (∀ (i : Nat) (x : AV) (v : Value), ys[i]? = some x → us[i]? = some v → V w fz β dm x v) → eqC ks vs us = some r
 | [], xs, ys, vs, us, r, h, h1, h2, _, _ => by
  rcases xs with _ | ⟨x, xs⟩ <;> rcases ys with _ | ⟨y, ys⟩ <;> simp [eqL] at h
  subst h
  rw [List.eq_nil_of_length_eq_zero h1, List.eq_nil_of_length_eq_zero h2]; rfl
 | k :: ks, xs, ys, vs, us, r, h, h1, h2, hx, hy => by
  rcases xs with _ | ⟨x, xs⟩
  ·simp [eqL] at h
  rcases ys with _ | ⟨y, ys⟩
  ·simp [eqL] at h
  rcases vs with _ | ⟨v, vs⟩
  ·simp at h1
  rcases us with _ | ⟨u, us⟩
  ·simp at h2
  simp only [eqL] at h
  split at h
  ·rename_i a b g1 g2
   obtain rfl := Option.some.inj h
   have hc := eqL_C g2 (by simpa using h1) (by simpa using h2) (fun i y u a b => hx (i + 1) y u (by simpa using a) (by simpa using b)) (fun i y u a b => hy (i + 1) y u (by simpa using a) (by simpa using b))
   have e1 := hx 0 x v rfl rfl
   have e2 := hy 0 y u rfl rfl
   have hv : eqV k v u = some a := by
    unfold eq1 at g1
    split at g1
    ·obtain rfl := e1.int_inv; obtain rfl := e2.int_inv; exact g1
    ·obtain rfl := e1.bool_inv; obtain rfl := e2.bool_inv; exact g1
    ·obtain rfl := e1.str_inv; obtain rfl := e2.str_inv; exact g1
    ·cases g1
   simp only [eqC, hv, hc]
  ·cases h
theorem eqA_run {P : Program} {t : TypeId} {w : World} {fz : Nat → Prop} {β : Nat → Option Own} {dm : Nat → Option Nat} {xs ys : List AV} {vx vy : Value} {r : Bool} (hx : V w fz β dm (.agg xs) vx) (hy : V w fz β dm (.agg ys) vy) (h : eqA P t xs ys = some r) :
  (Op.equal t vx vy).run P w = .ok r w ∧ ∀ op xo yo, (eqGuard op t xo yo vx vy).run P w = .ok () w := by
 unfold eqA at h
 split at h
 ·rename_i n' ks hkt hks
  unfold eqT at hks
  simp only [cond_eq_ite] at hks
  split at hks
  ·cases hks
  ·rename_i hg
   obtain ⟨vs, rfl, hl, hV⟩ := hx.agg_inv
   obtain ⟨us, rfl, hl', hV'⟩ := hy.agg_inv
   have hc := eqL_C h hl hl' hV hV'
   obtain ⟨g, hkd, hz, hrun⟩ := eqK_ok (P := P) 9991 9 t ks hks
   have hg1 : g = true := by rw [hkt] at hkd; exact (Prod.mk.inj (Option.some.inj hkd)).1.symm
   subst hg1
   refine ⟨?_, fun op xo yo => ?_⟩
   ·have := hrun w vs us r hc
    simpa [Op.equal, Op.maxDepth, mkV] using this
   ·have hg' : P.eqGuardType P.depth t = false := by simpa using hg
    unfold eqGuard
    cases op <;> simp [hg']
 ·cases h
end Go.Proofs.YtpchdjdochkjpaaGreatDoor.Am
set_option linter.unusedVariables false
set_option linter.unusedSimpArgs false
namespace Go.Proofs.YtpchdjdochkjpaaGreatDoor.Am
open Go Go.RowKit
theorem wr_eq (k : IntKind) (n : Int) : wr k n = k.wrap n := by
 cases k
 case i64 => exact (IntWalk.i64_left n).symm
 all_goals first | rfl | (simp only [wr]; simp [IntKind.wrap, IntKind.signed, IntKind.bits])
theorem beq_eq_decide_eq' (a b : List UInt8) : (a == b) = decide (a = b) := by by_cases h : a = b <;> simp [h]
theorem eqGuard_plain {P : Program} {op : BinOp} {t : TypeId} {x y : Operand} {a b : Value} (w : World) (h : ∀ c, a ≠ .agg c) (h' : a ≠ .nilIface) : (eqGuard op t x y a b).run P w = .ok () w := by
 unfold eqGuard
 cases a <;> first | (exact absurd rfl h') | (exact absurd rfl (h _)) | (cases op <;> rfl)
theorem bnI_ok {P : Program} {t : TypeId} {op : BinOp} {k : IntKind} {a b : Int} {z : AV} (h : bnI op k a b = some z) (hs : op ≠ .shl) (hs' : op ≠ .shr) (w : World) (fz : Nat → Prop) :
  ∃ v, (binOp op t (.int k a) (.int k b)).run P w = .ok v w ∧ F w fz z v := by
 have e : ∀ op', op' ≠ .shl → op' ≠ .shr → binOp op' t (.int k a) (.int k b) = (match op' with
  | .add | .sub | .mul => Op.intArith op' k a b
  | .quo | .rem => Op.intDiv op' k a b
  | .and | .or | .xor | .andNot => Op.intBits op' k a b
  | _ => Op.intCmp op' a b) := fun op' h1 h2 => by
   cases op' <;> first | exact absurd rfl h1 | exact absurd rfl h2 | (cases k <;> rfl)
 rw [e op hs hs']
 clear e
 cases op
 case quo | rem =>
  obtain ⟨h1, h2⟩ := need_some h
  obtain rfl := Option.some.inj h2
  simp only [Bool.not_eq_true', decide_eq_false_iff_not] at h1
  exact ⟨_, by simp only [Op.intDiv, if_neg h1, wr_eq]; rfl, .int _ _⟩
 case eql | neq | lss | leq | gtr | geq => obtain rfl := Option.some.inj h; exact ⟨_, rfl, .bool _⟩
 case shl => exact absurd rfl hs
 case shr => exact absurd rfl hs'
 all_goals (obtain rfl := Option.some.inj h; (try rw [wr_eq]); exact ⟨_, rfl, .int _ _⟩)
theorem bnS_ok {P : Program} {t : TypeId} {op : BinOp} {a b : ByteArray} {z : AV} (h : bnS op a b = some z) (w : World) (fz : Nat → Prop) :
  ∃ v, (binOp op t (.string a) (.string b)).run P w = .ok v w ∧ F w fz z v := by
 have e : binOp op t (.string a) (.string b) = Op.stringOp op a b := by cases op <;> rfl
 rw [e]
 clear e
 cases op
 case add =>
  obtain ⟨h1, h2⟩ := need_some h
  obtain rfl := Option.some.inj h2
  exact ⟨_, run_string_add_sum (P := P) (w := w) a b (by have := of_decide_eq_true h1; omega), .str _⟩
 case eql | neq | lss | leq | gtr | geq => obtain rfl := Option.some.inj h; exact ⟨_, rfl, by (try simp only [beq_eq_decide_eq']); exact .bool _⟩
 all_goals cases h
theorem equal_bool {P : Program} {t : TypeId} (h : P.underlying t = some .bool) (a b : Bool) (w : World) : (Op.equal t (.bool a) (.bool b)).run P w = .ok (a == b) w := by
 unfold Op.equal
 rw [show Op.maxDepth = 9999 + 1 from rfl]
 unfold Op.equalIn
 rw [Sem.run_bind, run_underlying h]
 rfl
theorem bn_ok {P : Program} {t : TypeId} {op : BinOp} {xo yo : Operand} {w : World} {fz : Nat → Prop} {β : Nat → Option Own} {dm : Nat → Option Nat} {x y z : AV} {vx vy : Value}
  (hx : V w fz β dm x vx) (hy : V w fz β dm y vy) (h : bn P t op x y = some z) : ∃ v, (do eqGuard op t xo yo vx vy; binOp op t vx vy : Sem Value).run P w = .ok v w ∧ F w fz z v := by
 unfold bn at h
 split at h
 ·rename_i k a k' b
  obtain rfl := hx.int_inv
  obtain rfl := hy.int_inv
  rw [Sem.run_bind, eqGuard_plain w (by simp) (by simp)]
  simp only [Result.andThen_ok]
  split at h
  ·obtain ⟨h1, h2⟩ := need_some h
   obtain rfl := Option.some.inj h2
   have h1' := of_decide_eq_true h1
   refine ⟨_, ?_, .int _ _⟩
   have : ¬ b < 0 := by omega
   simp [binOp, Op.shift, this, shlA, wr_eq]
  ·obtain ⟨h1, h2⟩ := need_some h
   obtain rfl := Option.some.inj h2
   have h1' := of_decide_eq_true h1
   refine ⟨_, ?_, .int _ _⟩
   have : ¬ b < 0 := by omega
   have hp : (0 : Int) ≤ 2 ^ (min b.toNat k.bits) := Int.pow_nonneg (by decide)
   simp [binOp, Op.shift, this, shrA, Int.fdiv_eq_ediv_of_nonneg _ hp]
  ·rename_i op h1 h2
   split at h
   ·rename_i hk
    subst hk
    exact bnI_ok h (fun e => h1 e) (fun e => h2 e) w fz
   ·cases h
 ·obtain rfl := hx.str_inv
  obtain rfl := hy.str_inv
  rw [Sem.run_bind, eqGuard_plain w (by simp) (by simp)]
  simp only [Result.andThen_ok]
  exact bnS_ok h w fz
 ·rename_i a b
  obtain rfl := hx.bool_inv
  obtain rfl := hy.bool_inv
  rw [Sem.run_bind, eqGuard_plain w (by simp) (by simp)]
  simp only [Result.andThen_ok]
  split at h
  ·rename_i hk
   obtain rfl := Option.some.inj h
   refine ⟨_, ?_, .bool _⟩
   rw [show binOp .eql t (.bool a) (.bool b) = (do pure (.bool (← Op.equal t (.bool a) (.bool b)))) from rfl, Sem.run_bind, equal_bool (kn_bool hk)]
   rfl
  ·rename_i hk
   obtain rfl := Option.some.inj h
   refine ⟨_, ?_, .bool _⟩
   rw [show binOp .neq t (.bool a) (.bool b) = (do pure (.bool (!(← Op.equal t (.bool a) (.bool b))))) from rfl, Sem.run_bind, equal_bool (kn_bool hk)]
   rfl
  ·cases h
 ·rename_i xs ys
  split at h
  ·rename_i r hr
   obtain rfl := Option.some.inj h
   obtain ⟨h1, h2⟩ := eqA_run hx hy hr
   obtain ⟨vs, rfl, _, _⟩ := hx.agg_inv
   obtain ⟨us, rfl, _, _⟩ := hy.agg_inv
   refine ⟨_, ?_, .bool _⟩
   rw [Sem.run_bind, h2]
   simp only [Result.andThen_ok]
   rw [show binOp .eql t (.agg vs.toArray) (.agg us.toArray) = (do pure (.bool (← Op.equal t (.agg vs.toArray) (.agg us.toArray)))) from rfl, Sem.run_bind, h1]
   rfl
  ·rename_i r hr
   obtain rfl := Option.some.inj h
   obtain ⟨h1, h2⟩ := eqA_run hx hy hr
   obtain ⟨vs, rfl, _, _⟩ := hx.agg_inv
   obtain ⟨us, rfl, _, _⟩ := hy.agg_inv
   refine ⟨_, ?_, .bool _⟩
   rw [Sem.run_bind, h2]
   simp only [Result.andThen_ok]
   rw [show binOp .neq t (.agg vs.toArray) (.agg us.toArray) = (do pure (.bool (!(← Op.equal t (.agg vs.toArray) (.agg us.toArray))))) from rfl, Sem.run_bind, h1]
   rfl
  ·cases h
 ·rename_i p
  have e1 : vx = .pointer p := by cases hx with | f _ _ hf => cases hf; rfl
  have e2 : vy = .pointer none := by cases hy with | f _ _ hf => cases hf; rfl
  subst e1 e2
  rw [Sem.run_bind, eqGuard_plain w (by simp) (by simp)]
  simp only [Result.andThen_ok]
  have pt : isPt P t = true → (Op.equal t (.pointer p) (.pointer none)).run P w = .ok p.isNone w := fun hp => by
   unfold isPt at hp
   split at hp
   ·rename_i e hu
    refine run_equal_pointer_nil _ _ _ ?_
    rw [hu]
    simp [Program.pointee, hu]
   ·cases hp
  split at h
  ·rename_i hp
   obtain rfl := Option.some.inj h
   refine ⟨_, ?_, .bool _⟩
   rw [show binOp .eql t (.pointer p) (.pointer none) = (do pure (.bool (← Op.equal t (.pointer p) (.pointer none)))) from by cases p <;> rfl, Sem.run_bind, pt hp]
   rfl
  ·rename_i hp
   obtain rfl := Option.some.inj h
   refine ⟨_, ?_, .bool _⟩
   rw [show binOp .neq t (.pointer p) (.pointer none) = (do pure (.bool (!(← Op.equal t (.pointer p) (.pointer none))))) from by cases p <;> rfl, Sem.run_bind, pt hp]
   rfl
  ·cases h
 ·cases h
theorem un_ok {P : Program} {op : UnOp} {w : World} {fz : Nat → Prop} {β : Nat → Option Own} {dm : Nat → Option Nat} {x z : AV} {vx : Value}
  (hx : V w fz β dm x vx) (h : un op x = some z) : ∃ v, (Op.unary op vx).run P w = .ok v w ∧ F w fz z v := by
 unfold un at h
 split at h
 ·obtain rfl := hx.bool_inv
  obtain rfl := Option.some.inj h
  exact ⟨_, rfl, .bool _⟩
 ·obtain rfl := hx.int_inv
  obtain rfl := Option.some.inj h
  refine ⟨_, ?_, .int _ _⟩
  simp [Op.unary, Op.intArith, wr_eq]
 ·obtain rfl := hx.int_inv
  obtain rfl := Option.some.inj h
  exact ⟨_, rfl, .int _ _⟩
 ·cases h
theorem lenV_ok {P : Program} {t ty : TypeId} {w : World} {fz : Nat → Prop} {β : Nat → Option Own} {dm : Nat → Option Nat} {x z : AV} {v : Value}
  (hx : V w fz β dm x v) (h : lenV P t x = some z) : ∃ u, (Builtin.len_ #[t] ty #[v]).run P w = .ok u w ∧ F w fz z u := by
 unfold lenV at h
 split at h
 ·rename_i hk
  obtain rfl := hx.str_inv
  obtain rfl := Option.some.inj h
  exact ⟨_, by simp [Builtin.len_, run_underlying (kn_str hk), goInt], .int _ _⟩
 ·rename_i hk
  obtain rfl := Option.some.inj h
  cases hx.sl_inv with
  | sl0 => exact ⟨_, by simp [Builtin.len_, run_underlying (kn_slice hk), goInt], .int _ _⟩
  | slE => exact ⟨_, by simp [Builtin.len_, run_underlying (kn_slice hk), goInt], .int _ _⟩
  | sl => exact ⟨_, by simp [Builtin.len_, run_underlying (kn_slice hk), goInt], .int _ _⟩
 ·rename_i hk
  obtain rfl := Option.some.inj h
  cases hx with
  | f _ _ h => cases h
  | own0 => exact ⟨_, by simp [Builtin.len_, run_underlying (kn_slice hk), goInt], .int _ _⟩
  | own => exact ⟨_, by simp [Builtin.len_, run_underlying (kn_slice hk), goInt], .int _ _⟩
 ·rename_i hk
  obtain rfl := hx.nil_inv
  obtain rfl := Option.some.inj h
  exact ⟨_, by simp [Builtin.len_, run_underlying (kn_slice hk), goInt], .int _ _⟩
 ·cases h
theorem idx_ok {P : Program} {t : TypeId} {w : World} {fz : Nat → Prop} {β : Nat → Option Own} {dm : Nat → Option Nat} {x i z : AV} {vx vi : Value}
  (hx : V w fz β dm x vx) (hi : V w fz β dm i vi) (h : idx P t x i = some z) : ∃ v, (Instr.index t vx vi).run P w = .ok v w ∧ V w fz β dm z v := by
 unfold idx at h
 split at h
 ·rename_i k i s
  obtain rfl := hx.str_inv
  obtain rfl := hi.int_inv
  split at h
  ·rename_i hk
   obtain ⟨h1, h⟩ := need_some h
   obtain ⟨h2, h⟩ := need_some h
   obtain rfl := Option.some.inj h
   have h1 := of_decide_eq_true h1
   have h2 := of_decide_eq_true h2
   have hn : i.toNat < s.size := by omega
   refine ⟨_, ?_, .f _ _ (.int _ _)⟩
   simp [Instr.index, asIntOf, run_underlying (kn_str hk), h1, ByteArray.getElem?_lt' s _ hn, bts, hn]
  ·cases h
 ·rename_i k i cs
  obtain rfl := hi.int_inv
  split at h
  ·rename_i n g s _ hk
   obtain ⟨h1, h⟩ := need_some h
   obtain ⟨h2, h⟩ := need_some h
   have h1 := of_decide_eq_true h1
   have h2 := of_decide_eq_true h2
   obtain ⟨e, hu, hke⟩ := arS_some hk
   obtain ⟨d, inf, hd, hinf, hag, hsz⟩ := kd_some hke
   obtain ⟨vs, rfl, hl, hV⟩ := hx.agg_inv
   obtain ⟨u, hu', hc⟩ := part_V hx h (by simp [AV.scalar])
   refine ⟨u, ?_, hu'⟩
   have key : (Go.part e vs.toArray (i.toNat * s)).run P w = .ok u w := by
    unfold Go.part
    rw [Sem.run_bind, run_isAgg' hd, hag]
    rcases hc with ⟨rfl, vs', hvs, hon, rfl⟩ | ⟨rfl, c, hc, rfl⟩
    ·obtain rfl : vs.toArray = vs' := by simpa using hvs
     simp [Result.andThen, run_sizeOf' hinf, hsz]
    ·simp [Result.andThen]
     simp [Value.cells] at hc
     rw [hc]; rfl
   simp [Instr.index, asIntOf, run_underlying hu, h1, h2, run_sizeOf' hinf, hsz, key]
  ·cases h
 ·cases h
theorem optI_ok {w : World} {fz : Nat → Prop} {β : Nat → Option Own} {dm : Nat → Option Nat} {x : Option AV} {v : Option Value} {d n : Int}
  (hx : ∀ y, x = some y → ∃ u, v = some u ∧ V w fz β dm y u) (hn : x = none → v = none) (h : optI x d = some n) : (v = none ∧ n = d) ∨ (∃ k, v = some (.int k n)) := by
 unfold optI at h
 split at h
 ·obtain rfl := Option.some.inj h
  exact .inl ⟨hn rfl, rfl⟩
 ·obtain rfl := Option.some.inj h
  obtain ⟨u, rfl, hu⟩ := hx _ rfl
  obtain rfl := hu.int_inv
  exact .inr ⟨_, rfl⟩
 ·cases h
theorem bounds_ok {P : Program} {b : Bool} {len cap : Nat} {lo hi : Option Value} {l h : Int} {w : World} (hl : (lo = none ∧ l = 0) ∨ ∃ k, lo = some (.int k l)) (hh : (hi = none ∧ h = len) ∨ ∃ k, hi = some (.int k h))
  (h0 : 0 ≤ l) (h1 : l ≤ h) (h2 : h ≤ len) (h3 : len ≤ cap) : (Instr.sliceBounds b len cap lo hi none).run P w = .ok (l.toNat, h.toNat, cap) w := by
 have hcap : h ≤ cap := by omega
 have hh0 : 0 ≤ h := by omega
 have e : max h 0 = h := by omega
 rcases hl with ⟨rfl, rfl⟩ | ⟨k, rfl⟩ <;> rcases hh with ⟨rfl, rfl⟩ | ⟨k', rfl⟩ <;>
  simp [Instr.sliceBounds, Instr.sliceBound, asIntOf, h0, h1, hcap, hh0, e]
theorem F.sl_bounds {w : World} {fz : Nat → Prop} {s : Nat} {z : AV} {xs : List AV} {v : Value} (h : F w fz (.sl s z xs) v) : ∃ a cap, v = .slice a xs.length cap ∧ xs.length ≤ cap := by
 cases h with
 | sl0 => exact ⟨none, 0, rfl, Nat.le_refl _⟩
 | slE _ _ a cap _ => exact ⟨some a, cap, rfl, Nat.zero_le _⟩
 | sl _ _ _ us a cap _ _ _ _ _ _ hcap => exact ⟨some a, cap, rfl, hcap⟩
theorem F.sl_sub {w : World} {fz : Nat → Prop} {s : Nat} {z : AV} {xs : List AV} {a : Option Addr} {cap : Nat} (h : F w fz (.sl s z xs) (.slice a xs.length cap)) {l k : Nat} (hk : l + k ≤ xs.length) :
  F w fz (.sl s z (sub xs l k)) (.slice (if cap = l then a else a.map (·.add (l * s))) k (cap - l)) := by
 cases h with
 | sl0 =>
  have : l = 0 := by simp at hk; omega
  have : k = 0 := by simp at hk; omega
  subst l k
  simp [sub]
  exact .sl0 s z
 | slE _ _ a _ hm =>
  have : l = 0 := by simp at hk; omega
  have : k = 0 := by simp at hk; omega
  subst l k
  rw [show sub ([] : List AV) 0 0 = [] from rfl]
  split
  ·exact .slE s z a _ (by omega)
  ·exact .slE s z _ _ (by omega)
 | sl _ _ _ us a _ hl h hz hc hsp hf hcap hm =>
  have hlen : (sub xs l k).length = k := by simp [sub]; omega
  have ha : a = ⟨a.block, a.off, none⟩ := by cases a; simp at hsp; simp [hsp]
  by_cases hcl : cap = l
  ·have hk0 : k = 0 := by omega
   subst hk0
   rw [if_pos hcl]
   have : sub xs l 0 = [] := by simp [sub]
   rw [this]
   have := F.sl (w := w) (fz := fz) s z [] [] a (cap - l) rfl (by simp) (by simp) (by simp) hsp hf (by simp) (by omega)
   simpa using this
  ·rw [if_neg hcl]
   have := F.sl (w := w) (fz := fz) s z (sub xs l k) ((us.drop l).take k) ⟨a.block, a.off + l * s, none⟩ (cap - l) (by simp [sub]; omega)
    (fun i x u h1 h2 => by
     simp only [sub] at h1
     rw [List.getElem?_take] at h1 h2
     split at h1
     ·rename_i hi
      rw [if_pos hi] at h2
      rw [List.getElem?_drop] at h1 h2
      exact h _ x u h1 h2
     ·cases h1)
    (fun u hu => hz u (List.mem_of_mem_drop (List.mem_of_mem_take hu)))
    (fun i u j c h1 h2 => by
     rw [List.getElem?_take] at h1
     split at h1
     ·rw [List.getElem?_drop] at h1
      have := hc _ u j c h1 h2
      rw [show a.off + l * s + (i * s + j) = a.off + ((l + i) * s + j) by rw [Nat.add_mul]; omega]
      exact this
     ·cases h1)
    rfl hf (by rw [hlen]; omega) (by omega)
   rw [hlen] at this
   rw [ha]
   simp only [Option.map_some, addr_add]
   exact this
theorem cut_ok {P : Program} {t : TypeId} {H : Nat → Option Row} {w : World} {fz : Nat → Prop} {β : Nat → Option Own} {dm : Nat → Option Nat} {x z : AV} {vx : Value} {lo hi : Option AV} {vl vh : Option Value}
  (hr : ∀ t r o, H t = some r → β t = some o → o.s = r.s)
  (hx : V w fz β dm x vx) (hl : ∀ y, lo = some y → ∃ u, vl = some u ∧ V w fz β dm y u) (hl' : lo = none → vl = none) (hh : ∀ y, hi = some y → ∃ u, vh = some u ∧ V w fz β dm y u) (hh' : hi = none → vh = none)
  (h : cut P H t x lo hi = some z) : ∃ v, (Instr.sliceAt t vx vl vh none).run P w = .ok v w ∧ V w fz β dm z v := by
 unfold cut at h
 split at h
 ·rename_i str l hlo
  obtain rfl := hx.str_inv
  split at h
  ·rename_i h' hk hhi
   obtain ⟨h1, h⟩ := need_some h
   obtain ⟨h2, h⟩ := need_some h
   obtain ⟨h3, h⟩ := need_some h
   obtain rfl := Option.some.inj h
   have hb := bounds_ok (P := P) (b := false) (len := str.size) (cap := str.size) (w := w) (optI_ok hl hl' hlo) (optI_ok hh hh' hhi) (of_decide_eq_true h1) (of_decide_eq_true h2) (of_decide_eq_true h3) (Nat.le_refl _)
   refine ⟨_, ?_, .f _ _ (.str _)⟩
   simp [Instr.sliceAt, Instr.slice, run_underlying (kn_str hk), hb]
  ·cases h
 ·rename_i s' z' xs l hlo
  split at h
  ·rename_i e se be ze sz h' hk hE hhi
   obtain ⟨i, zv, hu, hi, hz, hs, _, _⟩ := elS_some hE
   split at h
   ·rename_i hss
    subst hss
    obtain ⟨h1, h⟩ := need_some h
    obtain ⟨h2, h⟩ := need_some h
    obtain ⟨h3, h⟩ := need_some h
    obtain rfl := Option.some.inj h
    have h1 := of_decide_eq_true h1
    have h2 := of_decide_eq_true h2
    have h3 := of_decide_eq_true h3
    obtain ⟨a, cap, rfl, hcap⟩ := hx.sl_inv.sl_bounds
    have hb := bounds_ok (P := P) (b := true) (len := xs.length) (cap := cap) (w := w) (optI_ok hl hl' hlo) (optI_ok hh hh' hhi) h1 h2 h3 hcap
    refine ⟨_, ?_, .f _ _ (hx.sl_inv.sl_sub (l := l.toNat) (k := h'.toNat - l.toNat) (by omega))⟩
    simp [Instr.sliceAt, Instr.slice, run_underlying hu, hb, run_sizeOf' hi, hs]
   ·cases h
  ·cases h
 ·rename_i t' off n l hlo
  split at h
  ·rename_i r e se be ze h' hHr hE hhi
   obtain ⟨i', zv, hu, hi, hz, hsz, _, _⟩ := elS_some hE
   split at h
   rotate_left
   ·cases h
   rename_i hss
   obtain ⟨h1, h⟩ := need_some h
   obtain ⟨h2, h⟩ := need_some h
   obtain ⟨h3, h⟩ := need_some h
   obtain rfl := Option.some.inj h
   have h1 := of_decide_eq_true h1
   have h2 := of_decide_eq_true h2
   have h3 := of_decide_eq_true h3
   cases hx with
   | f _ _ h => cases h
   | own0 _ m hd hb =>
    have hbb := bounds_ok (P := P) (b := true) (len := 0) (cap := 0) (w := w) (optI_ok hl hl' hlo) (optI_ok hh hh' hhi) h1 h2 h3 (Nat.le_refl _)
    have l0 : l.toNat = 0 := by omega
    have k0 : h'.toNat - l.toNat = 0 := by omega
    refine ⟨.slice none 0 0, ?_, by rw [l0, k0] at *; exact .own0 _ m hd hb⟩
    simp [Instr.sliceAt, Instr.slice, run_underlying hu, hbb, run_sizeOf' hi, l0]
    omega
   | own _ _ _ a c o m hd hb ha hl1 hc hn =>
    have hsz : i'.size = o.s := by rw [hr _ _ _ hHr hb, hss, hsz]
    have hbb := bounds_ok (P := P) (b := true) (len := n) (cap := c) (w := w) (optI_ok hl hl' hlo) (optI_ok hh hh' hhi) h1 h2 h3 hl1
    refine ⟨.slice (some ⟨o.blk, if c = l.toNat then a else a + l.toNat * o.s, none⟩) (h'.toNat - l.toNat) (c - l.toNat), ?_, .own _ _ _ _ _ o m hd hb ?_ (by omega) (by omega) (by omega)⟩
    ·simp [Instr.sliceAt, Instr.slice, run_underlying hu, hbb, run_sizeOf' hi, hsz, addr_add]
     split <;> simp [*]
    ·by_cases hcl : c = l.toNat
     ·rw [if_pos hcl]
      rcases Nat.eq_zero_or_pos l.toNat with h0 | h0
      ·rcases ha with ha | ha
       ·left; rw [h0]; exact ha
       ·right; omega
      ·right; omega
     ·left
      rw [if_neg hcl, ha.resolve_right (by omega), Nat.add_mul]
  ·cases h
 ·cases h
end Go.Proofs.YtpchdjdochkjpaaGreatDoor.Am
set_option linter.unusedVariables false
set_option linter.unusedSimpArgs false
namespace Go.Proofs.YtpchdjdochkjpaaGreatDoor.Am
open Go Go.RowKit
theorem addr_eta {a : Addr} (h : a.spot = none) : a = ⟨a.block, a.off, none⟩ := by cases a; simp at h; simp [h]
theorem V.scalar_cells {w : World} {fz : Nat → Prop} {β : Nat → Option Own} {dm : Nat → Option Nat} {x : AV} {v : Value} (h : V w fz β dm x v) (hs : x.scalar = true) : v.cells = #[v] ∧ v.oneCell' = true := by
 cases h with
 | f _ _ h => exact h.one hs
 | own0 => exact ⟨rfl, rfl⟩
 | own => exact ⟨rfl, rfl⟩
 | optr => exact ⟨rfl, rfl⟩
 | lk _ _ _ h1 h2 => exact ⟨h1, h2⟩
 | _ => simp [AV.scalar] at hs
theorem idxA_ok {P : Program} {t : TypeId} {H : Nat → Option Row} {w : World} {fz : Nat → Prop} {β : Nat → Option Own} {dm : Nat → Option Nat} {x i z : AV} {vx vi : Value}
  (hr : ∀ t r o, H t = some r → β t = some o → o.s = r.s)
  (hx : V w fz β dm x vx) (hi : V w fz β dm i vi) (h : idxA P H t x i = some z) : ∃ v, (Instr.indexAt t vx vi).run P w = .ok v w ∧ V w fz β dm z v := by
 unfold idxA at h
 split at h
 ·rename_i k i s z' xs
  obtain rfl := hi.int_inv
  split at h
  ·rename_i e s' be ze hE
   obtain ⟨inf, zv, hu, hinf, hz, hs, _, _⟩ := elS_some hE
   split at h
   ·rename_i hss
    subst hss
    obtain ⟨h1, h⟩ := need_some h
    obtain ⟨h2, h⟩ := need_some h
    obtain rfl := Option.some.inj h
    have h1 := of_decide_eq_true h1
    have h2 := of_decide_eq_true h2
    have hn : i.toNat < xs.length := by omega
    cases hx.sl_inv with
    | sl0 => simp at hn
    | slE => simp at hn
    | sl _ _ _ us a cap hl hF hzz hc hsp hf hcap hm =>
     have hnu : i.toNat < us.length := by omega
     refine ⟨.pointer (some ⟨a.block, a.off + i.toNat * s, none⟩), ?_, ?_⟩
     ·rw [addr_eta hsp]
      simp [Instr.indexAt, asIntOf, run_underlying hu, h1, h2, run_sizeOf' hinf, hs, addr_add]
     ·have hx' : xs.getD i.toNat z' = xs[i.toNat] := by simp [hn]
      rw [hx']
      refine .f _ _ (.fptr _ us[i.toNat] ⟨a.block, a.off + i.toNat * s, none⟩ (hF i.toNat _ _ (by simp [hn]) (by simp [hnu])) (fun j c hj => ?_) rfl hf)
      have := hc i.toNat us[i.toNat] j c (by simp [hnu]) hj
      simpa [Nat.add_assoc] using this
   ·cases h
  ·cases h
 ·rename_i k i t' off n
  obtain rfl := hi.int_inv
  split at h
  ·rename_i r e s' be ze hHr hE
   obtain ⟨inf, zv, hu, hinf, hz, hs, _, _⟩ := elS_some hE
   split at h
   ·rename_i hss
    obtain ⟨h1, h⟩ := need_some h
    obtain ⟨h2, h⟩ := need_some h
    obtain rfl := Option.some.inj h
    have h1 := of_decide_eq_true h1
    have h2 := of_decide_eq_true h2
    cases hx with
    | f _ _ h => cases h
    | own0 => omega
    | own _ _ _ a c o m hd hb ha hl hc hn =>
     have hsz : inf.size = o.s := by rw [hr _ _ _ hHr hb, hss, hs]
     have ha : a = off * o.s := by omega
     refine ⟨.pointer (some ⟨o.blk, (off + i.toNat) * o.s + 0, none⟩), ?_, .optr _ _ _ o m hd hb (by omega)⟩
     simp [Instr.indexAt, asIntOf, run_underlying hu, h1, h2, run_sizeOf' hinf, hsz, addr_add, ha, Nat.add_mul]
   ·cases h
  ·cases h
 ·rename_i k i cs
  obtain rfl := hi.int_inv
  split at h
  ·rename_i n s _ hA
   obtain ⟨e, hu, hk⟩ := arS_some hA
   obtain ⟨d, inf, hd, hinf, hag, hs⟩ := kd_some hk
   obtain ⟨h0, h⟩ := need_some h
   obtain ⟨h1, h⟩ := need_some h
   obtain ⟨h2, h⟩ := need_some h
   have h1 := of_decide_eq_true h1
   have h2 := of_decide_eq_true h2
   split at h
   ·rename_i y hp
    obtain rfl := Option.some.inj h
    cases hx.fptr_inv with
    | fptr _ u a hF hc hsp hf =>
     obtain ⟨u', hF', hcase⟩ := part_F hF hp
     refine ⟨.pointer (some ⟨a.block, a.off + i.toNat * s, none⟩), ?_, .f _ _ (.fptr _ u' ⟨a.block, a.off + i.toNat * s, none⟩ hF' (fun j c hj => ?_) rfl hf)⟩
     ·rw [addr_eta hsp]
      simp [Instr.indexAt, Instr.sureAddr, asIntOf, run_underlying hu, h1, h2, run_sizeOf' hinf, hs, addr_add]
     ·rcases hcase with ⟨_, vs, rfl, hon, rfl⟩ | ⟨_, hys, c', hc', rfl⟩
      ·simp only [Value.cells] at hj
       rw [Array.getElem?_extract] at hj
       split at hj
       ·have := hc (i.toNat * s + j) c hj
        simpa [Nat.add_assoc] using this
       ·cases hj
      ·rw [(hF'.one hys).1] at hj
       have hj0 : j = 0 := by
        rcases Nat.eq_zero_or_pos j with h | h
        ·exact h
        ·rw [Array.getElem?_eq_none (by simp; omega)] at hj; cases hj
       subst hj0
       simp at hj
       subst hj
       have := hc _ _ hc'
       simpa using this
   ·cases h
  ·rename_i n s z hA
   obtain ⟨e, hu, hk⟩ := arS_some hA
   obtain ⟨d, inf, hd, hinf, hag, hs⟩ := kd_some hk
   obtain ⟨h0, h⟩ := need_some h
   obtain ⟨h1, h⟩ := need_some h
   obtain ⟨h2, h⟩ := need_some h
   obtain rfl := Option.some.inj h
   simp only [Bool.and_eq_true, decide_eq_true_eq] at h0
   obtain ⟨⟨h01, h02⟩, h03⟩ := h0
   have h1 := of_decide_eq_true h1
   have h2 := of_decide_eq_true h2
   have h2' : i < (n : Int) := by omega
   cases hx.fptr_inv with
   | fptr _ u a hF hc hsp hf =>
    obtain ⟨vs, rfl, hl, hsc, hFv⟩ := hF.agg_inv
    have hic : i.toNat < cs.length := by omega
    have hiv : i.toNat < vs.length := by omega
    have hFi := hFv i.toNat cs[i.toNat] vs[i.toNat] (by simp [hic]) (by simp [hiv])
    have hys := hsc _ (List.getElem_mem hic)
    rw [show cs.getD i.toNat z = cs[i.toNat] by simp [hic]]
    refine ⟨.pointer (some ⟨a.block, a.off + i.toNat, none⟩), ?_, .f _ _ (.fptr _ vs[i.toNat] ⟨a.block, a.off + i.toNat, none⟩ hFi (fun j c hj => ?_) rfl hf)⟩
    ·rw [addr_eta hsp]
     simp [Instr.indexAt, Instr.sureAddr, asIntOf, run_underlying hu, h1, h2', run_sizeOf' hinf, hs, h03, addr_add]
    ·rw [(hFi.one hys).1] at hj
     have hj0 : j = 0 := by
      rcases Nat.eq_zero_or_pos j with h | h
      ·exact h
      ·rw [Array.getElem?_eq_none (by simp; omega)] at hj; cases hj
     subst hj0
     simp at hj
     subst hj
     have := hc i.toNat vs[i.toNat] (by simp [Value.cells, hiv])
     simpa using this
  ·cases h
 ·rename_i k i t' e' o'
  obtain rfl := hi.int_inv
  split at h
  ·rename_i n _ s _ hA
   obtain ⟨e, hu, hk⟩ := arS_some hA
   obtain ⟨d, inf, hd, hinf, hag, hs⟩ := kd_some hk
   obtain ⟨h0, h⟩ := need_some h
   obtain ⟨h1, h⟩ := need_some h
   obtain ⟨h2, h⟩ := need_some h
   obtain rfl := Option.some.inj h
   have h1 := of_decide_eq_true h1
   have h2 := of_decide_eq_true h2
   cases hx with
   | f _ _ h => cases h
   | optr _ _ _ ow m hd hb hn =>
    refine ⟨.pointer (some ⟨ow.blk, e' * ow.s + (o' + i.toNat * s), none⟩), ?_, .optr _ _ _ ow m hd hb hn⟩
    simp [Instr.indexAt, Instr.sureAddr, asIntOf, run_underlying hu, h1, h2, run_sizeOf' hinf, hs, addr_add, Nat.add_assoc]
  ·cases h
 ·cases h
theorem ptrFd_ok {P : Program} {t f : Nat} {w : World} {fz : Nat → Prop} {β : Nat → Option Own} {dm : Nat → Option Nat} {x z : AV} {vx : Value}
  (hx : V w fz β dm x vx) (h : ptrFd P t f x = some z) : ∃ v, (Instr.fieldAt t vx f).run P w = .ok v w ∧ V w fz β dm z v := by
 unfold ptrFd at h
 split at h
 ·rename_i o g n y hf
  obtain ⟨fs, q, hu, hq, ho, hk⟩ := fdS_some hf
  obtain ⟨d, inf, hd, hinf, hag, hs⟩ := kd_some hk
  split at h
  ·rename_i z' hp
   obtain ⟨h0, h⟩ := need_some h
   obtain rfl := Option.some.inj h
   have h0 := of_decide_eq_true h0
   cases hx.fptr_inv with
   | fptr _ u a hF hc hsp hfz =>
    obtain ⟨u', hF', hcase⟩ := part_F hF hp
    have hne : ¬ inf.size = 0 := by omega
    refine ⟨.pointer (some ⟨a.block, a.off + o, none⟩), ?_, .f _ _ (.fptr _ u' ⟨a.block, a.off + o, none⟩ hF' (fun j c hj => ?_) rfl hfz)⟩
    ·rw [addr_eta hsp]
     simp [Instr.fieldAt, Instr.sureAddr, fieldPlace, run_underlying hu, hq, run_sizeOf' hinf, hne, addr_add, ho]
    ·rcases hcase with ⟨_, vs, rfl, hon, rfl⟩ | ⟨_, hys, c', hc', rfl⟩
     ·simp only [Value.cells] at hj
      rw [Array.getElem?_extract] at hj
      split at hj
      ·have := hc (o + j) c hj
       simpa [Nat.add_assoc] using this
      ·cases hj
     ·rw [(hF'.one hys).1] at hj
      have hj0 : j = 0 := by
       rcases Nat.eq_zero_or_pos j with h | h
       ·exact h
       ·rw [Array.getElem?_eq_none (by simp; omega)] at hj; cases hj
      subst hj0
      simp at hj
      subst hj
      have := hc _ _ hc'
      simpa using this
  ·cases h
 ·rename_i o g n t' i k hf
  obtain ⟨fs, q, hu, hq, ho, hk⟩ := fdS_some hf
  obtain ⟨d, inf, hd, hinf, hag, hs⟩ := kd_some hk
  obtain ⟨h0, h⟩ := need_some h
  obtain rfl := Option.some.inj h
  have h0 := of_decide_eq_true h0
  have hne : ¬ inf.size = 0 := by omega
  cases hx with
  | f _ _ h => cases h
  | optr _ _ _ ow m hd hb hn =>
   refine ⟨.pointer (some ⟨ow.blk, i * ow.s + (k + o), none⟩), ?_, .optr _ _ _ ow m hd hb hn⟩
   simp [Instr.fieldAt, Instr.sureAddr, fieldPlace, run_underlying hu, hq, run_sizeOf' hinf, hne, addr_add, ho, Nat.add_assoc]
 ·rename_i o g n ad hf
  obtain ⟨fs, q, hu, hq, ho, hk⟩ := fdS_some hf
  obtain ⟨d, inf, hd, hinf, hag, hs⟩ := kd_some hk
  obtain ⟨h0, h⟩ := need_some h
  obtain rfl := Option.some.inj h
  simp only [Bool.and_eq_true, decide_eq_true_eq, Option.isNone_iff_eq_none] at h0
  have hne : ¬ inf.size = 0 := by omega
  have hv : vx = .pointer (some ad) := by cases hx with | f _ _ hf => cases hf; rfl
  subst hv
  have ha : ad = ⟨ad.block, ad.off, none⟩ := by cases ad; simp at h0; simp [h0.2]
  refine ⟨.pointer (some ⟨ad.block, ad.off + o, none⟩), ?_, .f _ _ (.raw _ rfl rfl)⟩
  rw [ha]
  simp [Instr.fieldAt, Instr.sureAddr, fieldPlace, run_underlying hu, hq, run_sizeOf' hinf, hne, addr_add, ho]
 ·cases h
theorem field_ok {P : Program} {t f o n : Nat} {g : Bool} {w : World} {fz : Nat → Prop} {β : Nat → Option Own} {dm : Nat → Option Nat} {cs : List AV} {z : AV} {vx : Value}
  (hx : V w fz β dm (.agg cs) vx) (hf : fdS P t f = some (o, g, n)) (h : part (.agg cs) o g n = some z) : ∃ v, (Instr.field t vx f).run P w = .ok v w ∧ V w fz β dm z v := by
 obtain ⟨fs, q, hu, hq, ho, hk⟩ := fdS_some hf
 obtain ⟨d, inf, hd, hinf, hag, hs⟩ := kd_some hk
 obtain ⟨u, hV, hcase⟩ := part_V hx h (by simp [AV.scalar])
 refine ⟨u, ?_, hV⟩
 obtain ⟨vs, rfl, hl, _⟩ := hx.agg_inv
 have key : (Go.part q.type vs.toArray q.offset).run P w = .ok u w := by
  unfold Go.part
  rw [Sem.run_bind, run_isAgg' hd, hag, ho]
  rcases hcase with ⟨rfl, vs', hvs, hon, rfl⟩ | ⟨rfl, c, hc, rfl⟩
  ·obtain rfl : vs.toArray = vs' := by simpa using hvs
   simp [Result.andThen, run_sizeOf' hinf, hs]
  ·simp [Result.andThen]
   simp [Value.cells] at hc
   rw [hc]; rfl
 simp [Instr.field, run_underlying hu, hq, asAgg, key]
def Pw (w : World) (fz : Nat → Prop) (β : Nat → Option Own) (dm : Nat → Option Nat) (cs : List AV) (vs : List Value) : Prop :=
 vs.length = cs.length ∧ ∀ (i : Nat) (x : AV) (v : Value), cs[i]? = some x → vs[i]? = some v → V w fz β dm x v
theorem Pw.nil {w : World} {fz : Nat → Prop} {β : Nat → Option Own} {dm : Nat → Option Nat} : Pw w fz β dm [] [] := ⟨rfl, fun i x v h => by simp at h⟩
theorem Pw.cons {w : World} {fz : Nat → Prop} {β : Nat → Option Own} {dm : Nat → Option Nat} {x : AV} {v : Value} {cs : List AV} {vs : List Value} (h : V w fz β dm x v) (hs : Pw w fz β dm cs vs) : Pw w fz β dm (x :: cs) (v :: vs) := by
 refine ⟨by simp [hs.1], fun i y u h1 h2 => ?_⟩
 cases i with
 | zero => simp at h1 h2; subst h1 h2; exact h
 | succ i => exact hs.2 i y u (by simpa using h1) (by simpa using h2)
theorem fill_ok {w : World} {fz : Nat → Prop} {β : Nat → Option Own} {dm : Nat → Option Nat} {pl : Nat → Option (Nat × Nat)} : ∀ (ps : List (Nat × AV)) (qs : List (Nat × Value)) (cs ds : List AV) (cells : Array Value),
  ps.map (·.1) = qs.map (·.1) → Pw w fz β dm (ps.map (·.2)) (qs.map (·.2)) → Pw w fz β dm cs cells.toList → fillA pl cs ps = some ds → ∃ r, Instr.fill pl cells qs = some r ∧ Pw w fz β dm ds r.toList
 | [], [], cs, ds, cells, _, _, hc, h => by simp only [fillA, Option.some.injEq] at h; subst h; exact ⟨cells, rfl, hc⟩
 | [], q :: qs, _, _, _, h, _, _, _ => by simp at h
 | p :: ps, [], _, _, _, h, _, _, _ => by simp at h
 | (i, x) :: ps, (i', v) :: qs, cs, ds, cells, h1, h2, hc, h => by
  simp only [List.map_cons, List.cons.injEq] at h1
  obtain ⟨rfl, h1⟩ := h1
  have hv : V w fz β dm x v := h2.2 0 x v rfl rfl
  have h2' : Pw w fz β dm (ps.map (·.2)) (qs.map (·.2)) := ⟨by have := h2.1; simpa using this, fun j y u a b => h2.2 (j + 1) y u (by simpa using a) (by simpa using b)⟩
  simp only [fillA] at h
  split at h
  ·cases h
  ·rename_i o n hpl
   have step : ∀ (xs : List AV) (us : List Value), v.cells.toList = us → Pw w fz β dm xs us → us.length = n → o + n ≤ cs.length →
     fillA pl (cs.take o ++ xs ++ cs.drop (o + n)) ps = some ds → ∃ r, Instr.fill pl cells ((i, v) :: qs) = some r ∧ Pw w fz β dm ds r.toList := by
    intro xs us hus hP hn hfit hrest
    have hcs : cells.size = cs.length := by have := hc.1; simpa using this
    have hvs : v.cells.size = n := by rw [← hn, ← hus]; simp
    have hcond : (decide (v.cells.size ≠ n) || decide (o + v.cells.size > cells.size)) = false := by
     rw [hvs, hcs]; simp; omega
    simp only [Instr.fill, hpl, hcond, Bool.false_eq_true, if_false]
    refine fill_ok ps qs _ ds _ h1 h2' ?_ hrest
    have hlist : (Array.foldl (fun cs (x : Value × Nat) => cs.setIfInBounds (o + x.2) x.1) cells v.cells.zipIdx).toList = cells.toList.take o ++ us ++ cells.toList.drop (o + n) := by
     rw [← Array.foldl_toList, Array.toList_zipIdx, hus]
     obtain ⟨hsz, hget⟩ := Great.foldl_set o us 0 cells
     apply List.ext_getElem?
     intro k
     rw [Array.getElem?_toList, hget k]
     have hul : us.length = n := hn
     simp only [List.getElem?_append, List.length_append, List.length_take, Array.length_toList, List.getElem?_take, List.getElem?_drop, Array.getElem?_toList]
     have hm : min o cells.size = o := by omega
     rw [hm]
     by_cases c1 : k < o
     ·rw [if_neg (by omega), if_pos (by omega), if_pos c1, if_pos c1]
     ·by_cases c2 : k < o + us.length
      ·have : o + 0 ≤ k ∧ k < o + 0 + us.length ∧ k < cells.size := by omega
       have c3 : k < o + us.length := c2
       simp [c1, this, c3]
      ·have : ¬ (o + 0 ≤ k ∧ k < o + 0 + us.length ∧ k < cells.size) := by omega
       simp only [this, if_false, c1, c2]
       congr 1
       omega
    rw [hlist]
    have e1 : (cs.take o).length = o := by simp; omega
    have e2 : (cells.toList.take o).length = o := by simp; omega
    have hxl : xs.length = n := by rw [← hP.1, hn]
    refine ⟨by simp; have := hP.1; omega, fun k y u a b => ?_⟩
    rw [List.getElem?_append] at a b
    simp only [List.length_append, e1, e2, hn, hxl] at a b
    split at a
    ·rename_i hk
     rw [if_pos hk] at b
     rw [List.getElem?_append] at a b
     simp only [e1, e2] at a b
     split at a
     ·rename_i hk'
      rw [if_pos hk'] at b
      rw [List.getElem?_take] at a b
      rw [if_pos hk'] at a b
      exact hc.2 k y u a b
     ·rename_i hk'
      rw [if_neg hk'] at b
      exact hP.2 _ y u a b
    ·rename_i hk
     rw [if_neg hk] at b
     rw [List.getElem?_drop] at a b
     exact hc.2 _ y u a b
   split at h
   ·rename_i es
    obtain ⟨h3, h4⟩ := need_some h
    simp only [Bool.and_eq_true, decide_eq_true_eq] at h3
    obtain ⟨vs, rfl, hl, hV⟩ := hv.agg_inv
    exact step es vs rfl ⟨hl, hV⟩ (by omega) h3.2 h4
   ·obtain ⟨h3, h4⟩ := need_some h
    simp only [Bool.and_eq_true, decide_eq_true_eq] at h3
    obtain ⟨⟨hs, rfl⟩, ho⟩ := h3
    refine step [x] [v] (by rw [(hv.scalar_cells hs).1]) (Pw.cons hv Pw.nil) rfl (by omega) ?_
    rw [← h4]
    congr 1
    apply List.ext_getElem?
    intro k
    simp only [List.getElem?_append, List.length_append, List.length_take, List.getElem?_take, List.getElem?_drop, List.getElem?_set, List.length_singleton]
    have hm : min o cs.length = o := by omega
    rw [hm]
    by_cases c1 : k < o
    ·have c2 : k < o + 1 := by omega
     have c3 : ¬ o = k := by omega
     simp [c1, c2, c3]
    ·by_cases c2 : k = o
     ·subst c2; simp [ho]
     ·have c3 : ¬ k < o + 1 := by omega
      have c4 : ¬ o = k := by omega
      simp only [c1, c3, c4, if_false]
      congr 1
      omega
theorem mkAgg_ok {P : Program} {t : TypeId} {w : World} {fz : Nat → Prop} {β : Nat → Option Own} {dm : Nat → Option Nat} {ps : List (Nat × AV)} {qs : Array (Nat × Value)} {z : AV}
  (h1 : ps.map (·.1) = qs.toList.map (·.1)) (h2 : Pw w fz β dm (ps.map (·.2)) (qs.toList.map (·.2))) (h : mkAgg P t ps = some z) : ∃ v, (Instr.build t qs).run P w = .ok v w ∧ V w fz β dm z v := by
 unfold mkAgg at h
 split at h
 ·rename_i pl cs hpl hz
  split at h
  ·rename_i ds hfl
   obtain rfl := Option.some.inj h
   unfold zv at hz
   split at hz
   ·rename_i it hit
    split at hz
    ·rename_i zz hzz
     have hcells : Pw w fz β dm cs zz.cells.toList := by
      unfold cav at hz
      split at hz
      ·rename_i vs
       injection hz with hz
       subst hz
       refine ⟨by simp [Value.cells], fun i x v a b => ?_⟩
       rw [List.getElem?_map] at a
       simp only [Value.cells] at b
       rw [b] at a
       obtain rfl := Option.some.inj a
       exact cavS_V v
      ·unfold cavS at hz; split at hz <;> cases hz
     obtain ⟨r, hr, hP⟩ := fill_ok ps qs.toList cs ds zz.cells h1 h2 hcells hfl
     refine ⟨.agg r, run_build w t qs r ?_, ?_⟩
     ·unfold Program.built
      unfold plA at hpl
      split at hpl
      ·rename_i fs hu
       rw [hit, hu]
       simp only [hzz]
       cases hm : fs.toList.mapM (fun q => (P.info? q.type).map fun i => (q.offset, i.size)) with
       | none => rw [hm] at hpl; cases hpl
       | some l =>
        rw [hm] at hpl
        simp only [Option.map_some, Option.some.injEq] at hpl
        subst hpl
        simp only
        rw [← hr]
        congr 1
        funext i
        simp [Pl.at]
      ·rename_i n e hu
       rw [hit, hu]
       simp only [hzz]
       cases hm : P.info? e with
       | none => rw [hm] at hpl; cases hpl
       | some ie =>
        rw [hm] at hpl
        simp only [Option.map_some, Option.some.injEq] at hpl
        subst hpl
        exact hr
      ·cases hpl
     ·have := V.agg (w := w) (fz := fz) (β := β) (dm := dm) ds r.toList hP.1 hP.2
      simpa using this
    ·cases hz
   ·cases hz
  ·cases h
 ·cases h
structure Lent (H : Nat → Option Row) (w : World) (fz fz' : Nat → Prop) (β : Nat → Option Own) (dm : Nat → Option Nat) (l : List Nat) : Prop where
 sub : ∀ b, fz b → fz' b
 rows : ∀ t r, t ∈ l → H t = some r → RowOk w fz β t r ∧ dm t = some r.xs.length
 fro : ∀ t o, t ∈ l → β t = some o → fz' o.blk
theorem deepS_F {H : Nat → Option Row} {w : World} {fz fz' : Nat → Prop} {β : Nat → Option Own} {dm : Nat → Option Nat} {x y : AV} {v : Value} (hv : V w fz β dm x v) (hL : Lent H w fz fz' β dm (tagS x)) (h : deepS H x = some y) : F w fz' y v ∧ y.scalar = true := by
 cases hv with
 | own0 t n hd hb =>
  simp only [deepS] at h
  split at h
  ·rename_i r hr
   obtain rfl := Option.some.inj h
   simp only [sub, List.drop_zero, List.take_zero]
   exact ⟨.sl0 _ _, rfl⟩
  ·cases h
 | own t off len a c o n hd hb ha hl hc hn =>
  simp only [deepS] at h
  split at h
  ·rename_i r hr
   obtain rfl := Option.some.inj h
   obtain ⟨hR, hdm⟩ := hL.rows t r (by simp [tagS]) hr
   have hm : n = r.xs.length := by rw [hd] at hdm; exact Option.some.inj hdm
   subst hm
   unfold RowOk at hR
   rw [hb] at hR
   obtain ⟨e1, e2, e3, e4, cur, us, e5, e6, e7, e8, e9, e10⟩ := hR
   have hlen : (Am.sub r.xs off len).length = len := by simp [Am.sub]; omega
   refine ⟨?_, rfl⟩
   have := F.sl (w := w) (fz := fz') r.s r.z (Am.sub r.xs off len) ((us.drop off).take len) ⟨o.blk, a, none⟩ c (by rw [hlen]; simp; omega)
    (fun i x u h1 h2 => by
     simp only [Am.sub] at h1
     rw [List.getElem?_take] at h1 h2
     split at h1
     ·rename_i hi
      rw [if_pos hi] at h2
      rw [List.getElem?_drop] at h1 h2
      exact (e8 _ x u h1 h2).mono (fun _ _ => rfl) hL.sub
     ·cases h1)
    (fun u hu => e9 u (List.mem_of_mem_drop (List.mem_of_mem_take hu)))
    (fun i u j cc h1 h2 => by
     rw [List.getElem?_take] at h1
     split at h1
     ·rename_i hi
      rw [List.getElem?_drop] at h1
      have := e10 _ u j cc h1 h2
      rw [cell_of_row w _ _ _ _ _ e5]
      have hc0 : c ≠ 0 := by omega
      rw [ha.resolve_right (fun h => hc0 h.1), e1, show off * r.s + (i * r.s + j) = (off + i) * r.s + j by rw [Nat.add_mul]; omega]
      exact this
     ·cases h1)
    rfl (hL.fro t o (by simp [tagS]) hb) (by rw [hlen]; exact hl) (by omega)
   rw [hlen] at this
   exact this
  ·cases h
 | f _ _ hf =>
  have hsub := hf.mono (fun _ _ => rfl) hL.sub
  cases hf <;> simp only [deepS] at h <;> first | (obtain rfl := Option.some.inj h; exact ⟨hsub, rfl⟩) | cases h
 | dead => simp [deepS] at h
 | undef => simp [deepS] at h
 | optr => simp [deepS] at h
 | lk _ _ _ h1 h2 => simp only [deepS, Option.some.injEq] at h; subst h; exact ⟨.raw _ h1 h2, rfl⟩
 | agg => simp [deepS] at h
 | tup => simp [deepS] at h
theorem deepL_F {H : Nat → Option Row} {w : World} {fz fz' : Nat → Prop} {β : Nat → Option Own} {dm : Nat → Option Nat} : ∀ {cs ds : List AV} {vs : List Value}, Pw w fz β dm cs vs → Lent H w fz fz' β dm (cs.flatMap tagS) → deepL H cs = some ds →
  vs.length = ds.length ∧ (∀ x ∈ ds, x.scalar = true) ∧ ∀ (i : Nat) (x : AV) (v : Value), ds[i]? = some x → vs[i]? = some v → F w fz' x v
 | [], ds, vs, hP, _, h => by
  simp only [deepL, Option.some.injEq] at h
  subst h
  exact ⟨hP.1, by simp, fun i x v h => by simp at h⟩
 | x :: cs, ds, [], hP, _, h => by have := hP.1; simp at this
 | x :: cs, ds, v :: vs, hP, hL, h => by
  simp only [deepL] at h
  split at h
  ·rename_i y ys hy hys
   obtain rfl := Option.some.inj h
   have h1 := deepS_F (hP.2 0 x v rfl rfl) ⟨hL.sub, fun t r ht => hL.rows t r (by simp [ht]), fun t o ht => hL.fro t o (by simp [ht])⟩ hy
   have h2 := deepL_F (cs := cs) (vs := vs) ⟨by have := hP.1; simpa using this, fun i a b c d => hP.2 (i + 1) a b (by simpa using c) (by simpa using d)⟩ ⟨hL.sub, fun t r ht => hL.rows t r (by rw [List.flatMap_cons]; exact List.mem_append_right _ ht), fun t o ht => hL.fro t o (by rw [List.flatMap_cons]; exact List.mem_append_right _ ht)⟩ hys
   refine ⟨by simp [h2.1], ?_, fun i a b c d => ?_⟩
   ·intro z hz
    rcases List.mem_cons.1 hz with rfl | hz
    ·exact h1.2
    ·exact h2.2.1 z hz
   ·cases i with
    | zero => simp at c d; subst c d; exact h1.1
    | succ i => exact h2.2.2 i a b (by simpa using c) (by simpa using d)
  ·cases h
theorem deep_F {H : Nat → Option Row} {w : World} {fz fz' : Nat → Prop} {β : Nat → Option Own} {dm : Nat → Option Nat} {x y : AV} {v : Value} (hv : V w fz β dm x v) (hL : Lent H w fz fz' β dm (tags x)) (h : deep H x = some y) : F w fz' y v := by
 unfold deep at h
 split at h
 ·rename_i cs
  split at h
  ·rename_i ds hds
   obtain rfl := Option.some.inj h
   obtain ⟨vs, rfl, hl, hV⟩ := hv.agg_inv
   obtain ⟨h1, h2, h3⟩ := deepL_F ⟨hl, hV⟩ hL hds
   exact .agg ds vs h1 h2 h3
  ·cases h
 ·rename_i hne
  have ht : tags x = tagS x := by cases x <;> first | rfl | exact absurd rfl (hne _)
  rw [ht] at hL
  exact (deepS_F hv hL h).1
theorem bytesV_nums {w : World} {fz : Nat → Prop} : ∀ {xs : List AV} {l : List UInt8} {us : List Value}, bytesV xs = some l → us.length = xs.length → (∀ (i : Nat) (x : AV) (u : Value), xs[i]? = some x → us[i]? = some u → F w fz x u) →
  ∃ ns : List Int, us = ns.map (Value.int .u8) ∧ l = ns.map (fun n => UInt8.ofNat n.toNat)
 | [], l, [], h, _, _ => by simp [bytesV] at h; subst h; exact ⟨[], rfl, rfl⟩
 | [], l, u :: us, _, h, _ => by simp at h
 | x :: xs, l, [], _, h, _ => by simp at h
 | x :: xs, l, u :: us, h, hl, hF => by
  simp only [bytesV, List.mapM_cons, Option.bind_eq_bind] at h
  split at h
  ·rename_i n
   simp only [Option.bind_some] at h
   cases hr : bytesV xs with
   | none => unfold bytesV at hr; rw [hr] at h; cases h
   | some l' =>
    have hr' := hr
    unfold bytesV at hr'
    rw [hr'] at h
    simp only [Option.bind_some, Option.pure_def, Option.some.injEq] at h
    subst h
    obtain ⟨ns, h1, h2⟩ := bytesV_nums (us := us) hr (by simpa using hl) (fun i a b c d => hF (i + 1) a b (by simpa using c) (by simpa using d))
    have := hF 0 _ u rfl rfl
    cases this
    exact ⟨n :: ns, by rw [h1]; rfl, by rw [h2]; rfl⟩
  ·cases h
theorem pushes (ns : List Int) : ∀ (b : ByteArray), ns.foldl (fun r n => r.push (UInt8.ofNat n.toNat)) b = ⟨b.data ++ (ns.map (fun n => UInt8.ofNat n.toNat)).toArray⟩ := by
 induction ns with
 | nil => intro b; simp
 | cons n ns ih =>
  intro b
  rw [List.foldl_cons, ih]
  congr 1
  apply Array.ext'
  simp [ByteArray.push]
theorem cvt_ok {P : Program} {H : Nat → Option Row} {a b : TypeId} {w : World} {fz fz' : Nat → Prop} {β : Nat → Option Own} {dm : Nat → Option Nat} {x z : AV} {v : Value}
  (hx : V w fz β dm x v) (hL : Lent H w fz fz' β dm (tagS x)) (h : cvt P H a b x = some z) : ∃ u, (convert a b v).run P w = .ok u w ∧ F w fz z u := by
 unfold cvt at h
 split at h
 ·rename_i k _ n hk
  obtain rfl := hx.int_inv
  obtain ⟨h0, h⟩ := need_some h
  obtain ⟨d, hd⟩ := Option.isSome_iff_exists.1 h0
  obtain rfl := Option.some.inj h
  refine ⟨_, ?_, .int _ _⟩
  simp only [convert, Sem.run_bind, run_underlying hd, run_underlying (kn_int hk), Result.andThen_ok, wr_eq]
  cases d <;> rfl
 ·rename_i s hk
  obtain rfl := hx.str_inv
  obtain ⟨h0, h⟩ := need_some h
  obtain ⟨d, hd⟩ := Option.isSome_iff_exists.1 h0
  obtain rfl := Option.some.inj h
  refine ⟨_, ?_, .str _⟩
  simp only [convert, Sem.run_bind, run_underlying hd, run_underlying (kn_str hk), Result.andThen_ok]
  cases d <;> rfl
 ·rename_i hk hnn
  split at h
  ·rename_i e z' xs hks hdp
   split at h
   ·rename_i l hke hb
    obtain rfl := Option.some.inj h
    have hF := (deepS_F hx hL hdp).1
    cases hF with
    | sl0 =>
     simp [bytesV] at hb
     subst hb
     refine ⟨_, ?_, .str _⟩
     rw [run_convert_bytes_string w a b e none 0 0 (kn_slice hks) (kn_int hke) (kn_str hk)]
     rfl
    | slE _ _ ad cap hm =>
     simp [bytesV] at hb
     subst hb
     refine ⟨_, ?_, .str _⟩
     rw [run_convert_bytes_string w a b e (some ad) 0 cap (kn_slice hks) (kn_int hke) (kn_str hk)]
     have hlist := run_loadCells_list (P := P) w ad (([] : List Int).map (Value.int .u8)) (fun j u hu => by simp at hu)
     rw [run_bytesToString w ad 0 cap [] hlist, pushes]
     rfl
    | sl _ _ _ us ad cap hl hF hz hc hsp hf hcap hm =>
     obtain ⟨ns, rfl, rfl⟩ := bytesV_nums hb hl hF
     refine ⟨_, ?_, .str _⟩
     rw [run_convert_bytes_string w a b e (some ad) xs.length cap (kn_slice hks) (kn_int hke) (kn_str hk)]
     have hlist := run_loadCells_list (P := P) w ad (ns.map (Value.int .u8)) (fun j u hu => by
      rw [addr_eta hsp, addr_add]
      have := hc j u 0 u hu (by rw [List.getElem?_map] at hu; cases hn : ns[j]? with
       | none => rw [hn] at hu; cases hu
       | some n => rw [hn] at hu; obtain rfl := Option.some.inj hu; rfl)
      simpa using this)
     rw [hl] at hlist
     rw [run_bytesToString w ad xs.length cap ns hlist, pushes]
     congr 2
     simp
   ·cases h
  ·rename_i e hks hdp
   split at h
   ·rename_i hke
    obtain rfl := Option.some.inj h
    have hF := (deepS_F hx hL hdp).1
    cases hF
    refine ⟨_, ?_, .str _⟩
    rw [run_convert_bytes_string w a b e none 0 0 (kn_slice hks) (kn_int hke) (kn_str hk)]
    rfl
   ·cases h
  ·cases h
 ·cases h
end Go.Proofs.YtpchdjdochkjpaaGreatDoor.Am
set_option linter.unusedVariables false
set_option linter.unusedSimpArgs false
namespace Go.Proofs.YtpchdjdochkjpaaGreatDoor.Am
open Go Go.RowKit
section
variable {X : Cx} {s : St} {fz : Nat → Prop} {β : Nat → Option Own} {a : Act} {w : World}
theorem Rel.rs (h : Rel X s fz β a w) : ∀ t r o, s.H t = some r → β t = some o → o.s = r.s := fun t r o h1 h2 => by
 have := h.rw t r h1
 unfold RowOk at this
 rw [h2] at this
 exact this.1
theorem Rel.fzUp (h : Rel X s fz β a w) {fz' : Nat → Prop} (h1 : ∀ b, fz b → fz' b)
  (h2 : ∀ b, fz' b → fz b ∨ (X.w0.heap.size ≤ b ∧ b < w.heap.size ∧ ¬ s.x.bl w b ∧ ∀ t o, s.H t ≠ none → β t = some o → s.fr t = false → b ≠ o.blk)) : Rel X s fz' β a w := by
 refine ⟨h.bel, h.sz, h.df, fun i hi => (h.tm i hi).mono (fun _ _ => rfl) h1 (fun _ _ z => z) (fun _ _ _ => rfl), fun t r ht => (h.rw t r ht).mono (fun _ _ => rfl) h1 rfl (fun _ _ => rfl), h.ij, h.lo, ?_, ?_, fun b hb => h1 b (h.f0 b hb), fun g hg => (h.gl g hg).mono (fun _ _ => rfl) h1, h.bi, fun i hi => (h.vt i hi).imp fun v hv => hv.mono (fun _ _ => rfl) h1 (fun _ _ z => z) (fun _ _ _ => rfl),
  h.xo.mono (fun _ _ => rfl) h1 (fun b hb => (h2 b hb).imp id (fun z => z.2.2.1)) (Nat.le_refl _) (fun t o ht ho => .inl ⟨ht, ho⟩)⟩
 ·intro t o ht ho
  refine ⟨fun hf hz => ?_, fun hf => h1 _ ((h.fl t o ht ho).2 hf)⟩
  rcases h2 _ hz with hz | ⟨_, _, _, hz⟩
  ·exact (h.fl t o ht ho).1 hf hz
  ·exact hz t o ht ho hf rfl
 ·intro b hb
  rcases h2 b hb with hz | ⟨h3, h4, _⟩
  ·exact h.fs b hz
  ·exact ⟨h4, fun h5 => absurd h5 (by omega)⟩
theorem Rel.freeze1 (h : Rel X s fz β a w) (t : Nat) (ht : 16 ≤ t) : ∃ fz' : Nat → Prop, (∀ b, fz b → fz' b) ∧ (∀ o, s.H t ≠ none → β t = some o → fz' o.blk) ∧ Rel X { s with fr := upd s.fr t true } fz' β a w := by
 refine ⟨fun b => fz b ∨ ∃ o, s.H t ≠ none ∧ β t = some o ∧ b = o.blk, fun b hb => .inl hb, fun o h1 h2 => .inr ⟨o, h1, h2, rfl⟩, ?_⟩
 have hk : Rel X s (fun b => fz b ∨ ∃ o, s.H t ≠ none ∧ β t = some o ∧ b = o.blk ∧ s.fr t = true) β a w := h.fzUp (fun b hb => .inl hb) (fun b hb => by
  rcases hb with hb | ⟨o, h1, h2, rfl, h3⟩
  ·exact .inl hb
  ·exact .inl ((h.fl t o h1 h2).2 h3))
 refine ⟨h.bel, h.sz, h.df, fun i hi => (h.tm i hi).mono (fun _ _ => rfl) (fun b hb => .inl hb) (fun _ _ z => z) (fun _ _ _ => rfl), fun t' r ht' => (h.rw t' r ht').mono (fun _ _ => rfl) (fun b hb => .inl hb) rfl (fun _ _ => rfl), h.ij, h.lo, ?_, ?_, fun b hb => .inl (h.f0 b hb), fun g hg => (h.gl g hg).mono (fun _ _ => rfl) (fun b hb => .inl hb), h.bi, fun i hi => (h.vt i hi).imp fun v hv => hv.mono (fun _ _ => rfl) (fun b hb => .inl hb) (fun _ _ z => z) (fun _ _ _ => rfl),
  h.xo.mono (fun _ _ => rfl) (fun b hb => .inl hb) (fun b hb => hb.imp id (fun ⟨o, h1, h2, e⟩ hb' => (h.xo.2 b hb').2.2.2 t o h1 h2 e.symm)) (Nat.le_refl _) (fun t o ht ho => .inl ⟨ht, ho⟩)⟩
 ·intro t' o' ht' ho'
  simp only [upd_apply]
  by_cases hte : t' = t
  ·subst hte
   rw [if_pos rfl]
   exact ⟨fun hf => (by cases hf), fun _ => .inr ⟨o', ht', ho', rfl⟩⟩
  ·rw [if_neg hte]
   refine ⟨fun hf hz => ?_, fun hf => .inl ((h.fl t' o' ht' ho').2 hf)⟩
   rcases hz with hz | ⟨o, h1, h2, h3⟩
   ·exact (h.fl t' o' ht' ho').1 hf hz
   ·exact hte (h.ij t' t o' o ht' h1 ho' h2 h3)
 ·intro b hb
  rcases hb with hb | ⟨o, h1, h2, rfl⟩
  ·exact h.fs b hb
  ·cases hr : s.H t with
   | none => exact absurd hr h1
   | some r => exact ⟨(h.rw t r hr).lt h2, fun h5 => absurd ((h.lo t o h1 h2).1 ht) (by omega)⟩
theorem Rel.freeze : ∀ (l : List Nat) {s : St} {fz : Nat → Prop}, Rel X s fz β a w → tagOk l = true → ∃ fz' : Nat → Prop, (∀ b, fz b → fz' b) ∧ (∀ t ∈ l, ∀ o, s.H t ≠ none → β t = some o → fz' o.blk) ∧ Rel X { s with fr := frz s.fr l } fz' β a w
 | [], s, fz, h, _ => ⟨fz, fun _ z => z, fun t ht => by simp at ht, h⟩
 | t :: l, s, fz, h, ht => by
  simp only [tagOk, List.all_cons, Bool.and_eq_true, decide_eq_true_eq] at ht
  obtain ⟨fz1, h1, h2, h3⟩ := h.freeze1 t ht.1
  obtain ⟨fz2, h4, h5, h6⟩ := Rel.freeze l h3 ht.2
  refine ⟨fz2, fun b hb => h4 b (h1 b hb), fun t' ht' o ho hb => ?_, h6⟩
  rcases List.mem_cons.1 ht' with rfl | ht'
  ·exact h4 _ (h2 o ho hb)
  ·exact h5 t' ht' o ho hb
theorem frz_mem (f : Nat → Bool) : ∀ (l : List Nat) (t : Nat), t ∉ l → frz f l t = f t
 | [], t, _ => rfl
 | u :: l, t, h => by
  simp only [List.mem_cons, not_or] at h
  simp only [frz]
  rw [frz_mem _ l t h.2, upd_apply, if_neg h.1]
theorem Rel.newRow (h : Rel X s fz β a w) {t : Nat} (hn : s.H t = none) (ht : 16 ≤ t) {r : Row} {bo : Option Own}
  (h1 : ∀ o, bo = some o → ¬ fz o.blk ∧ X.w0.heap.size ≤ o.blk ∧ (∀ t' o', s.H t' ≠ none → β t' = some o' → o'.blk ≠ o.blk) ∧ ¬ s.x.bl w o.blk) (h2 : RowOk w fz (upd β t bo) t r) :
  Rel X { s with H := upd s.H t (some r), fr := upd s.fr t false } fz (upd β t bo) a w := by
 have hne : ∀ t', s.H t' ≠ none → t' ≠ t := fun t' h' e => h' (e ▸ hn)
 refine ⟨h.bel, h.sz, h.df, ?_, ?_, ?_, ?_, ?_, h.fs, h.f0, h.gl, fun t' h' => (by rw [upd_apply, if_neg (by omega)]; exact h.bi t' h'), fun i hi => (h.vt i hi).imp fun v hv => hv.mono (fun _ _ => rfl) (fun _ z => z) (fun t' n hd => by
  have : t' ≠ t := hne t' (fun e => by simp [St.dm, e] at hd)
  simpa [St.dm, upd_apply, this] using hd) (fun t' n hd => by
  have : t' ≠ t := hne t' (fun e => by simp [St.dm, e] at hd)
  rw [upd_apply, if_neg this]), h.xo.mono (fun _ _ => rfl) (fun _ z => z) (fun _ z => .inl z) (Nat.le_refl _) (fun t' o ht ho => by
  simp only [upd_apply] at ht ho
  by_cases c : t' = t
  ·rw [if_pos c] at ho; exact .inr (h1 o ho).2.2.2
  ·rw [if_neg c] at ht ho; exact .inl ⟨ht, ho⟩)⟩
 ·intro i hi
  refine (h.tm i hi).mono (fun _ _ => rfl) (fun _ z => z) (fun t' n hd => ?_) (fun t' n hd => ?_)
  ·have : t' ≠ t := hne t' (fun e => by simp [St.dm, e] at hd)
   simpa [St.dm, upd_apply, this] using hd
  ·have : t' ≠ t := hne t' (fun e => by simp [St.dm, e] at hd)
   rw [upd_apply, if_neg this]
 ·intro t' r' hr'
  simp only [upd_apply] at hr'
  by_cases hte : t' = t
  ·subst hte
   rw [if_pos rfl] at hr'
   obtain rfl := Option.some.inj hr'
   exact h2
  ·rw [if_neg hte] at hr'
   exact (h.rw t' r' hr').mono (fun _ _ => rfl) (fun _ z => z) (by rw [upd_apply, if_neg hte]) (fun _ _ => rfl)
 ·intro t1 t2 o1 o2 h1' h2' b1 b2 e
  simp only [upd_apply] at h1' h2' b1 b2
  by_cases c1 : t1 = t <;> by_cases c2 : t2 = t
  ·rw [c1, c2]
  ·rw [if_pos c1] at b1
   rw [if_neg c2] at h2' b2
   exact absurd e.symm ((h1 o1 b1).2.2.1 t2 o2 h2' b2)
  ·rw [if_neg c1] at h1' b1
   rw [if_pos c2] at b2
   exact absurd e ((h1 o2 b2).2.2.1 t1 o1 h1' b1)
  ·rw [if_neg c1] at h1' b1
   rw [if_neg c2] at h2' b2
   exact h.ij t1 t2 o1 o2 h1' h2' b1 b2 e
 ·intro t' o' h' b'
  simp only [upd_apply] at h' b'
  by_cases c : t' = t
  ·rw [if_pos c] at b'
   exact ⟨fun _ => (h1 o' b').2.1, .inl (h1 o' b').2.1⟩
  ·rw [if_neg c] at h' b'
   exact h.lo t' o' h' b'
 ·intro t' o' h' b'
  simp only [upd_apply] at h' b' ⊢
  by_cases c : t' = t
  ·rw [if_pos c] at b' ⊢
   exact ⟨fun _ => (h1 o' b').1, fun e => by cases e⟩
  ·rw [if_neg c] at h' b' ⊢
   exact h.fl t' o' h' b'
theorem Rel.write (h : Rel X s fz β a w) {t : Nat} {r r' : Row} {o : Own} (hH : s.H t = some r) (hb : β t = some o) (hf : s.fr t = false) {w' : World} (hos : w'.os = w.os) (htp : w'.tape = w.tape) (hout : w'.output = w.output)
  (hsz : w'.heap.size = w.heap.size) (hbl : ∀ b, b ≠ o.blk → w'.heap[b]? = w.heap[b]?) (hlen : r'.xs.length = r.xs.length) (hR : RowOk w' fz β t r') : Rel X { s with H := upd s.H t (some r') } fz β a w' := by
 have hne : s.H t ≠ none := by rw [hH]; simp
 have hnz : ¬ fz o.blk := (h.fl t o hne hb).1 hf
 have hfz : ∀ b, fz b → w'.heap[b]? = w.heap[b]? := fun b hb' => hbl b (fun e => hnz (e ▸ hb'))
 have hdm : ∀ t', (upd s.H t (some r') t').map (fun r => r.xs.length) = (s.H t').map (fun r => r.xs.length) := fun t' => by
  rw [upd_apply]
  by_cases c : t' = t
  ·rw [if_pos c, c, hH]; simp [hlen]
  ·rw [if_neg c]
 have hn2 : ∀ t', upd s.H t (some r') t' ≠ none → s.H t' ≠ none := fun t' h' e => h' (by
  have := hdm t'
  rw [e] at this
  cases hq : upd s.H t (some r') t' with
  | none => rfl
  | some q => rw [hq] at this; simp at this)
 refine ⟨⟨hos.trans h.bel.os, htp.trans h.bel.tape, hout.trans h.bel.output, by rw [hsz]; exact h.bel.size, fun k hk hnw => ?_⟩, h.sz, h.df, ?_, ?_, ?_, ?_, ?_, fun b hb' => ⟨by rw [hsz]; exact (h.fs b hb').1, (h.fs b hb').2⟩, h.f0, fun g hg => (h.gl g hg).mono hfz (fun _ z => z), h.bi, fun i hi => (h.vt i hi).imp fun v hv => hv.mono hfz (fun _ z => z) (fun t' n hd => by
  simp only [St.dm] at hd ⊢
  rw [hdm]; exact hd) (fun _ _ _ => rfl),
  h.xo.mono (fun b hb' => hb'.elim (hfz b) (fun z => hbl b (fun e => (h.xo.2 b z).2.2.2 t o hne hb e.symm))) (fun _ z => z) (fun _ z => .inl z) (Nat.le_of_eq hsz.symm) (fun t1 o1 g1 g2 => .inl ⟨hn2 t1 g1, g2⟩)⟩
 ·have : k ≠ o.blk := fun e => by
   rcases (h.lo t o hne hb).2 with h1 | h1
   ·omega
   ·exact hnw (e ▸ h1)
  exact (hbl k this).trans (h.bel.block k hk hnw)
 ·intro i hi
  refine (h.tm i hi).mono hfz (fun _ z => z) (fun t' n hd => ?_) (fun _ _ _ => rfl)
  simp only [St.dm] at hd ⊢
  rw [hdm]; exact hd
 ·intro t' r1 hr1
  simp only [upd_apply] at hr1
  by_cases c : t' = t
  ·subst c
   rw [if_pos rfl] at hr1
   obtain rfl := Option.some.inj hr1
   exact hR
  ·rw [if_neg c] at hr1
   refine (h.rw t' r1 hr1).mono hfz (fun _ z => z) rfl (fun o' ho' => hbl _ (fun e => c (h.ij t' t o' o (by rw [hr1]; simp) hne ho' hb e)))
 ·exact fun t1 t2 o1 o2 h1 h2 => h.ij t1 t2 o1 o2 (hn2 t1 h1) (hn2 t2 h2)
 ·exact fun t1 o1 h1 => h.lo t1 o1 (hn2 t1 h1)
 ·exact fun t1 o1 h1 => h.fl t1 o1 (hn2 t1 h1)
theorem Rel.lent (h : Rel X s fz β a w) {fz' : Nat → Prop} (h1 : ∀ b, fz b → fz' b) {l : List Nat} (h2 : ∀ t ∈ l, ∀ o, s.H t ≠ none → β t = some o → fz' o.blk) (hd : ∀ t ∈ l, s.H t ≠ none ∨ β t = none) : Lent s.H w fz fz' β s.dm l := by
 refine ⟨h1, fun t r ht hr => ⟨h.rw t r hr, by simp [St.dm, hr]⟩, fun t o ht hb => ?_⟩
 rcases hd t ht with hd | hd
 ·exact h2 t ht o hd hb
 ·rw [hd] at hb; cases hb
theorem V.tags_dm {dm : Nat → Option Nat} {x : AV} {v : Value} (h : V w fz β dm x v) : ∀ t ∈ tags x, dm t ≠ none := by
 have one : ∀ {y : AV} {u : Value}, V w fz β dm y u → ∀ t ∈ tagS y, dm t ≠ none := by
  intro y u hy t ht
  cases hy with
  | own0 t' n hd => simp only [tagS, List.mem_singleton] at ht; subst ht; rw [hd]; simp
  | own t' _ _ _ _ _ n hd => simp only [tagS, List.mem_singleton] at ht; subst ht; rw [hd]; simp
  | f _ _ hf => cases hf <;> simp [tagS] at ht
  | _ => simp [tagS] at ht
 intro t ht
 cases x with
 | agg cs =>
  obtain ⟨vs, rfl, hl, hV⟩ := h.agg_inv
  simp only [tags, List.mem_flatMap] at ht
  obtain ⟨y, hy, ht⟩ := ht
  obtain ⟨i, hi, rfl⟩ := List.getElem_of_mem hy
  have hiv : i < vs.length := by omega
  exact one (hV i cs[i] vs[i] (by simp [hi]) (by simp [hiv])) t ht
 | _ => exact one h t ht
theorem Rel.lent_of (h : Rel X s fz β a w) {fz' : Nat → Prop} (h1 : ∀ b, fz b → fz' b) {x : AV} {v : Value} (hv : V w fz β s.dm x v) (h2 : ∀ t ∈ tags x, ∀ o, s.H t ≠ none → β t = some o → fz' o.blk) : Lent s.H w fz fz' β s.dm (tags x) :=
 h.lent h1 h2 (fun t ht => .inl (fun e => hv.tags_dm t ht (by simp [St.dm, e])))
end
end Go.Proofs.YtpchdjdochkjpaaGreatDoor.Am
set_option linter.unusedVariables false
set_option linter.unusedSimpArgs false
namespace Go.Proofs.YtpchdjdochkjpaaGreatDoor.Am
open Go Go.RowKit
section
variable {X : Cx} {s : St} {fz : Nat → Prop} {β : Nat → Option Own} {a : Act} {w : World}
theorem cavS_F {w : World} {fz : Nat → Prop} {v : Value} (h : (cavS v).scalar = true) : F w fz (cavS v) v := by
 unfold cavS at *
 split at h
 ·exact .int _ _
 ·exact .bool _
 ·exact .str _
 ·exact .nil
 ·exact .raw _ rfl rfl
 ·exact .raw _ rfl rfl
 ·simp [AV.scalar] at h
theorem cav_F {w : World} {fz : Nat → Prop} {v : Value} {n : Nat} (h : sizedAs n (cav v) = true) : F w fz (cav v) v ∧ v.cells.size = n := by
 unfold cav at *
 split at h
 ·rename_i vs
  simp only [sizedAs, Bool.and_eq_true, decide_eq_true_eq, List.all_eq_true] at h
  have := F.agg (w := w) (fz := fz) (vs.toList.map cavS) vs.toList (by simp) (fun x hx => h.2 x hx) (fun i x v h1 h2 => by
   rw [List.getElem?_map, h2] at h1
   obtain rfl := Option.some.inj h1
   exact cavS_F (h.2 _ (List.mem_map.2 ⟨v, List.mem_of_getElem? h2, rfl⟩)))
  refine ⟨by simpa using this, ?_⟩
  have := h.1
  simpa [Value.cells] using this
 ·rename_i hne
  have hc : ∀ cs, cavS v ≠ .agg cs := fun cs e => by unfold cavS at e; split at e <;> cases e
  have hs : (cavS v).scalar = true ∧ n = 1 := by
   cases hq : cavS v with
   | agg cs => exact absurd hq (hc cs)
   | _ => rw [hq] at h; simpa [sizedAs] using h
  exact ⟨cavS_F hs.1, by rw [((cavS_F (w := w) (fz := fz) hs.1).one hs.1).1, hs.2]; rfl⟩
theorem sized_cells {w : World} {fz : Nat → Prop} {x : AV} {v : Value} {n : Nat} (h : F w fz x v) (hs : sizedAs n x = true) : v.cells.size = n := by
 cases x with
 | agg cs =>
  obtain ⟨vs, rfl, hl, _⟩ := h.agg_inv
  simp only [sizedAs, Bool.and_eq_true, decide_eq_true_eq] at hs
  simp [Value.cells]; omega
 | _ =>
  simp only [sizedAs, Bool.and_eq_true, decide_eq_true_eq] at hs
  rw [(h.one hs.1).1, hs.2]; rfl
theorem fin_val (hR : Rel X s fz β a w) {o : Oper} {x : AV} {v : Value} (hr : (execOp a.eval o).run X.P w = .ok (.value v) w) (hv : V w fz β s.dm x v) {e : Eff} (he : vl x = some e) :
  ∃ v w' β' fz', ((execOp a.eval o).run X.P w = .ok (.value v) w' ∨ ((execOp a.eval o).run X.P w = .ok .skip w' ∧ v = undef)) ∧ Rel X (s.app o.dst e) fz' β' (a.put o.dst v) w' := by
 obtain rfl := Option.some.inj he
 refine ⟨v, w, β, fz, .inl hr, ?_⟩
 have := hR.put hv o.dst
 cases hd : o.dst with
 | none => rw [hd] at this; exact this
 | some d => rw [hd] at this; exact this
theorem fin_opt (hR : Rel X s fz β a w) {o : Oper} {x : Option AV} {e : Eff} (he : vo x = some e)
  (hv : ∀ y, x = some y → ∃ v, (execOp a.eval o).run X.P w = .ok (.value v) w ∧ V w fz β s.dm y v) :
  ∃ v w' β' fz', ((execOp a.eval o).run X.P w = .ok (.value v) w' ∨ ((execOp a.eval o).run X.P w = .ok .skip w' ∧ v = undef)) ∧ Rel X (s.app o.dst e) fz' β' (a.put o.dst v) w' := by
 cases x with
 | none => cases he
 | some y =>
  obtain ⟨v, h1, h2⟩ := hv y rfl
  exact fin_val hR h1 h2 he
theorem fin_new (hR : Rel X s fz β a w) {o : Oper} {d : Nat} (hd : o.dst = some d) {r : Row} {fl : List Nat} {x : AV} {v : Value} {cur : Array Value} {cap : Nat} (hn : (s.H (tg d 0)).isNone = true) (hfl : tagOk fl = true)
  (hr : (execOp a.eval o).run X.P w = .ok (.value v) (w.alloc (.cells cur r.e)))
  (hrow : ∀ fz' : Nat → Prop, (∀ b, fz b → fz' b) → (∀ t ∈ fl, ∀ o, s.H t ≠ none → β t = some o → fz' o.blk) → ∃ us : List Value, 0 < r.s ∧ r.xs.length ≤ cap ∧ cap ≤ maxLen ∧ cur.size = cap * r.s ∧ us.length = r.xs.length ∧
   (∀ (i : Nat) (x : AV) (u : Value), r.xs[i]? = some x → us[i]? = some u → F w fz' x u) ∧ (∀ u ∈ us, u.cells.size = r.s) ∧ (∀ (i : Nat) (u : Value) (j : Nat) (c : Value), us[i]? = some u → u.cells[j]? = some c → cur[i * r.s + j]? = some c))
  (hv : ∀ (w' : World) (fz' : Nat → Prop) (β' : Nat → Option Own) (dm : Nat → Option Nat), β' (tg d 0) = some ⟨w.heap.size, cap, r.s⟩ → dm (tg d 0) = some r.xs.length → V w' fz' β' dm x v) :
  ∃ v w' β' fz', ((execOp a.eval o).run X.P w = .ok (.value v) w' ∨ ((execOp a.eval o).run X.P w = .ok .skip w' ∧ v = undef)) ∧ Rel X (s.app o.dst { val := x, new := [r], fz := fl }) fz' β' (a.put o.dst v) w' := by
 obtain ⟨fz1, h1, h2, h3⟩ := hR.freeze fl hfl
 obtain ⟨us, g1, g2, g3, g4, g5, g6, g7, g8⟩ := hrow fz1 h1 h2
 have hH : s.H (tg d 0) = none := by simpa using hn
 have hold : ∀ b, b < w.heap.size → (w.alloc (.cells cur r.e)).heap[b]? = w.heap[b]? := fun b hb => Below.heap_alloc w _ b hb
 have h4 := h3.world (w' := w.alloc (.cells cur r.e)) rfl rfl rfl (by simp) hold
 have hlt : ∀ t' o', s.H t' ≠ none → β t' = some o' → o'.blk < w.heap.size := fun t' o' ht' hb => by
  cases hq : s.H t' with
  | none => exact absurd hq ht'
  | some r' => exact (hR.rw t' r' hq).lt hb
 have hrow' : RowOk (w.alloc (.cells cur r.e)) fz1 (upd β (tg d 0) (some ⟨w.heap.size, cap, r.s⟩)) (tg d 0) r := by
  unfold RowOk
  simp only [upd_apply, if_true]
  exact ⟨by first | rfl | trivial, g1, g2, g3, cur, us, heap_alloc_new w _, g4, g5, fun i x u a b => (g6 i x u a b).mono (fun b hb => hold b (h3.fs b hb).1) (fun _ z => z), g7, g8⟩
 have h5 := h4.newRow (t := tg d 0) hH (by unfold tg; omega) (r := r) (bo := some ⟨w.heap.size, cap, r.s⟩) (fun o ho => by
  obtain rfl := Option.some.inj ho
  exact ⟨fun hz => Nat.lt_irrefl _ (h3.fs _ hz).1, hR.bel.size, fun t' o' ht' hb => Nat.ne_of_lt (hlt t' o' ht' hb), fun hz => Nat.lt_irrefl _ (hR.xo.2 _ ((s.x.mono h3.xo.1 (fun b hb => hold b (hb.elim (fun z => (h3.fs b z).1) (fun z => (h3.xo.2 b z).1))) (fun _ z => z)).2 _ hz)).1⟩) hrow'
 have h6 := h5.put (x := x) (v := v) (hv _ _ _ _ (by simp [upd_apply]) (by simp [St.dm, upd_apply])) (some d)
 refine ⟨v, w.alloc (.cells cur r.e), upd β (tg d 0) (some ⟨w.heap.size, cap, r.s⟩), fz1, .inl hr, ?_⟩
 rw [hd]
 exact h6
theorem setPart_F {w : World} {fz : Nat → Prop} {x y z : AV} {u v : Value} {o n : Nat} {g : Bool} (hx : F w fz x u) (hy : F w fz y v) (h : setPart x o g n y = some z) :
  ∃ u', F w fz z u' ∧ u'.cells.size = u.cells.size ∧ o + v.cells.size ≤ u.cells.size ∧ v.cells.size = n ∧ u'.cells.toList = u.cells.toList.take o ++ v.cells.toList ++ u.cells.toList.drop (o + v.cells.size) := by
 unfold setPart at h
 split at h
 ·rename_i cs
  obtain ⟨us, rfl, hl, hs, hF⟩ := hx.agg_inv
  cases g
  ·simp only [cond_false] at h
   obtain ⟨h1, h2⟩ := need_some h
   obtain rfl := Option.some.inj h2
   simp only [Bool.and_eq_true, decide_eq_true_eq] at h1
   have hvc := (hy.one h1.1.2).1
   have hou : o < us.length := by omega
   refine ⟨.agg (us.set o v).toArray, .agg _ _ (by simp [hl]) ?_ ?_, by simp [Value.cells], ?_, by rw [hvc, h1.2]; rfl, ?_⟩
   ·intro q hq
    rcases List.mem_or_eq_of_mem_set hq with hq | rfl
    ·exact hs q hq
    ·exact h1.1.2
   ·intro i q c a b
    rw [List.getElem?_set] at a b
    by_cases c1 : o = i
    ·rw [if_pos c1, if_pos (by omega)] at a b
     obtain rfl := Option.some.inj a
     obtain rfl := Option.some.inj b
     exact hy
    ·rw [if_neg c1] at a b
     exact hF i q c a b
   ·rw [hvc]; simp [Value.cells]; omega
   ·rw [hvc]
    simp only [Value.cells, List.size_toArray, List.length_cons, List.length_nil]
    exact List.set_eq_take_append_cons_drop .. |>.trans (by simp [hou])
  ·simp only [cond_true] at h
   split at h
   ·rename_i ds
    obtain ⟨h1, h2⟩ := need_some h
    obtain rfl := Option.some.inj h2
    simp only [Bool.and_eq_true, decide_eq_true_eq] at h1
    obtain ⟨vs, rfl, hlv, hsv, hFv⟩ := hy.agg_inv
    have hvn : vs.length = n := by omega
    refine ⟨.agg (us.take o ++ vs ++ us.drop (o + n)).toArray, .agg _ _ (by simp; omega) ?_ ?_, by simp [Value.cells]; omega, by simp [Value.cells]; omega, by simp [Value.cells, hvn], by simp [Value.cells, hvn]⟩
    ·intro q hq
     rcases List.mem_append.1 hq with hq | hq
     ·rcases List.mem_append.1 hq with hq | hq
      ·exact hs q (List.mem_of_mem_take hq)
      ·exact hsv q hq
     ·exact hs q (List.mem_of_mem_drop hq)
    ·intro i q c a b
     have e1 : (cs.take o).length = o := by simp; omega
     have e2 : (us.take o).length = o := by simp; omega
     rw [List.getElem?_append] at a b
     simp only [List.length_append, e1, e2, h1.2, hvn] at a b
     split at a
     ·rename_i hk
      rw [if_pos hk] at b
      rw [List.getElem?_append] at a b
      simp only [e1, e2] at a b
      split at a
      ·rename_i hk'
       rw [if_pos hk'] at b
       rw [List.getElem?_take] at a b
       rw [if_pos hk'] at a b
       exact hF i q c a b
      ·rename_i hk'
       rw [if_neg hk'] at b
       exact hFv _ q c a b
     ·rename_i hk
      rw [if_neg hk] at b
      rw [List.getElem?_drop] at a b
      exact hF _ q c a b
   ·cases h
 ·obtain ⟨h1, h2⟩ := need_some h
  obtain rfl := Option.some.inj h2
  simp only [Bool.and_eq_true, Bool.not_eq_true', decide_eq_true_eq] at h1
  obtain ⟨⟨⟨⟨h1, h2⟩, rfl⟩, h3⟩, h4⟩ := h1
  have e1 := (hx.one h1).1
  have e2 := (hy.one h3).1
  refine ⟨v, hy, by rw [e1, e2]; rfl, by rw [e1, e2]; simp, by rw [e2, h4]; rfl, by rw [e1, e2]; simp⟩
theorem st_ok (hR : Rel X s fz β a w) {ty : TypeId} {p x : AV} {vp vx : Value} (hp : V w fz β s.dm p vp) (hx : V w fz β s.dm x vx) {e : Eff} (h : st X.P s.H s.fr ty p x = some e) :
  ∃ w' fz', (Instr.storeAt ty vp vx).run X.P w = .ok () w' ∧ e.val = .undef ∧ (e.new = [] ∧ e.xs = none) ∧ Rel X { s with H := putW s.H e.wr, fr := frz s.fr e.fz } fz' β a w' := by
 unfold st at h
 split at h
 ·rename_i g n t i o hk
  split at h
  ·rename_i r y hr hy
   split at h
   ·rename_i z hz
    obtain ⟨h1, h2⟩ := need_some h
    obtain rfl := Option.some.inj h2
    simp only [Bool.and_eq_true, Bool.not_eq_true'] at h1
    obtain ⟨⟨hfr, hct⟩, htag⟩ := h1
    cases hp with
    | f _ _ hf => cases hf
    | optr _ _ _ ow m hd hb hn =>
     obtain ⟨fz1, f1, f2, f3⟩ := hR.freeze (tags x) htag
     have hF := deep_F hx (hR.lent_of f1 hx f2) hy
     have hm : m = r.xs.length := by simp [St.dm, hr] at hd; exact hd.symm
     subst hm
     have hRow := f3.rw t r hr
     unfold RowOk at hRow
     rw [hb] at hRow
     obtain ⟨e1, e2, e3, e4, cur, us, e5, e6, e7, e8, e9, e10⟩ := hRow
     have hiu : i < us.length := by omega
     rw [show r.xs.getD i .dead = r.xs[i] by simp [hn]] at hz
     obtain ⟨u', hu', hsz, hfit, hvn, hcells⟩ := setPart_F (e8 i r.xs[i] us[i] (by simp [hn]) (by simp [hiu])) hF hz
     have husz := e9 us[i] (List.getElem_mem hiu)
     obtain ⟨d', inf, hdd, hinf, hag, hsi⟩ := kd_some hk
     have hicap : (i + 1) * r.s ≤ ow.cap * r.s := Nat.mul_le_mul_right _ (by omega)
     have hfit2 : i * ow.s + o + vx.cells.toList.length ≤ cur.size := by
      rw [e1, e6, Array.length_toList]
      rw [Nat.add_mul] at hicap
      omega
     have hst := run_storeCells_at X.P ow.blk (i * ow.s + o) r.e vx.cells.toList 0 cur w e5 (by simpa using hfit2) (fun v hv => hF.cells_one v (by simpa using hv))
     have hne : s.H t ≠ none := by rw [hr]; simp
     refine ⟨w.setRow ow.blk (cur.toList.take (i * ow.s + o + 0) ++ vx.cells.toList ++ cur.toList.drop (i * ow.s + o + 0 + vx.cells.toList.length)).toArray, fz1, ?_, rfl, ⟨rfl, rfl⟩, ?_⟩
     ·unfold Instr.storeAt Instr.sureAddr storeVar
      simp only [pure_bind]
      rw [Sem.run_bind, run_sizeOf' hinf]
      have : ¬ vx.cells.size ≠ inf.size := by omega
      simp only [Result.andThen_ok, this, if_false]
      exact hst
     ·have hfr' : frz s.fr (tags x) t = false := by
       rw [frz_mem]
       ·exact hfr
       ·intro hc
        have := List.contains_iff_mem.2 hc
        rw [hct] at this; cases this
      refine f3.write (t := t) (r := r) (r' := { r with xs := r.xs.set i z }) hr hb hfr' rfl rfl rfl (size_setRow w _ _) (fun b hbb => setRow_other w _ _ _ hbb) (by simp) ?_
      unfold RowOk
      rw [hb]
      have hnz : ¬ fz1 ow.blk := (f3.fl t ow hne hb).1 hfr'
      have hfz : ∀ b, fz1 b → (w.setRow ow.blk (cur.toList.take (i * ow.s + o + 0) ++ vx.cells.toList ++ cur.toList.drop (i * ow.s + o + 0 + vx.cells.toList.length)).toArray).heap[b]? = w.heap[b]? := fun b hb' => setRow_other w _ _ _ (fun e => hnz (e ▸ hb'))
      refine ⟨e1, e2, by simpa using e3, e4, _, us.set i u', setRow_heap w ow.blk cur _ r.e (0, 0) e5, ?_, by simp [e7], ?_, ?_, ?_⟩
      ·simp; rw [← e6]; have := hfit2; simp at this; omega
      ·intro k q u h1 h2
       rw [List.getElem?_set] at h1 h2
       by_cases c : i = k
       ·rw [if_pos c, if_pos (by omega)] at h1 h2
        obtain rfl := Option.some.inj h1
        obtain rfl := Option.some.inj h2
        exact hu'.mono hfz (fun _ z => z)
       ·rw [if_neg c] at h1 h2
        exact (e8 k q u h1 h2).mono hfz (fun _ z => z)
      ·intro u hu
       rcases List.mem_or_eq_of_mem_set hu with hu | rfl
       ·exact e9 u hu
       ·rw [hsz]; exact husz
      ·intro k u j c h1 h2
       rw [List.getElem?_set] at h1
       have hL : (cur.toList.take (i * r.s + o)).length = i * r.s + o := by
        rw [← e1]; simp; have := hfit2; simp at this; omega
       simp only [Nat.add_zero, List.getElem?_toArray]
       have hvl : vx.cells.toList.length = n := by simpa using hvn
       have key : ∀ p, (cur.toList.take (i * ow.s + o) ++ vx.cells.toList ++ cur.toList.drop (i * ow.s + o + vx.cells.toList.length))[p]? = if i * r.s + o ≤ p ∧ p < i * r.s + o + n then vx.cells[p - (i * r.s + o)]? else cur[p]? := by
        intro p
        rw [List.getElem?_append, List.getElem?_append]
        simp only [List.length_append, hL, hvl, e1]
        by_cases c1 : p < i * r.s + o
        ·rw [if_pos (by omega), if_pos c1, if_neg (by omega), List.getElem?_take, if_pos c1, Array.getElem?_toList]
        ·by_cases c2 : p < i * r.s + o + n
         ·rw [if_pos c2, if_neg c1, if_pos (by omega), Array.getElem?_toList]
         ·rw [if_neg c2, if_neg (by omega), List.getElem?_drop, Array.getElem?_toList]
          congr 1
          omega
       rw [key]
       by_cases c' : i = k
       ·subst c'
        rw [if_pos rfl, if_pos (by omega)] at h1
        obtain rfl := Option.some.inj h1
        have h2' : u'.cells.toList[j]? = some c := by simpa using h2
        rw [hcells, List.getElem?_append, List.getElem?_append] at h2'
        have hLo : (us[i].cells.toList.take o).length = o := by simp; omega
        simp only [List.length_append, hLo, hvl] at h2'
        by_cases c1 : j < o
        ·rw [if_pos (by omega), if_pos c1, List.getElem?_take, if_pos c1] at h2'
         rw [if_neg (by omega)]
         exact e10 i us[i] j c (by simp [hiu]) (by simpa using h2')
        ·by_cases c2 : j < o + n
         ·rw [if_pos c2, if_neg c1] at h2'
          rw [if_pos (by omega), show i * r.s + j - (i * r.s + o) = j - o by omega]
          simpa using h2'
         ·rw [if_neg c2, List.getElem?_drop] at h2'
          rw [if_neg (by omega)]
          refine e10 i us[i] j c (by simp [hiu]) ?_
          have : o + vx.cells.size + (j - (o + n)) = j := by omega
          rw [this] at h2'
          simpa using h2'
       ·rw [if_neg c'] at h1
        have hjs : j < r.s := by
         have := e9 u (List.mem_of_getElem? h1)
         have hj := (Array.getElem?_eq_some_iff.1 h2).1
         omega
        have hno : ¬ (i * r.s + o ≤ k * r.s + j ∧ k * r.s + j < i * r.s + o + n) := by
         intro hh
         have hon : o + n ≤ r.s := by omega
         rcases Nat.lt_or_gt_of_ne c' with hlt | hgt
         ·have : (i + 1) * r.s ≤ k * r.s := Nat.mul_le_mul_right _ hlt
          rw [Nat.add_mul] at this
          omega
         ·have : (k + 1) * r.s ≤ i * r.s := Nat.mul_le_mul_right _ hgt
          rw [Nat.add_mul] at this
          omega
        rw [if_neg hno]
        exact e10 k u j c h1 h2
   ·cases h
  ·cases h
 ·cases h
end
end Go.Proofs.YtpchdjdochkjpaaGreatDoor.Am
set_option linter.unusedVariables false
set_option linter.unusedSimpArgs false
namespace Go.Proofs.YtpchdjdochkjpaaGreatDoor.Am
open Go Go.RowKit
section
variable {X : Cx} {s : St} {fz : Nat → Prop} {β : Nat → Option Own} {a : Act} {w : World}
theorem min_toNat (a b : Nat) : Nat.min a b = min a b := rfl
def strVs (b : ByteArray) : List Value := b.data.toList.map fun x => .int .u8 (x.toNat : Int)
theorem strVs_one (b : ByteArray) : ∀ u ∈ strVs b, u.oneCell' = true := by
 intro u hu
 simp only [strVs, List.mem_map] at hu
 obtain ⟨q, _, rfl⟩ := hu
 rfl
theorem deepS_sl (hR : Rel X s fz β a w) {y : AV} {v : Value} (hv : V w fz β s.dm y v) {sz : Nat} {z : AV} {ys : List AV} (h : deepS s.H y = some (.sl sz z ys)) :
  ∃ us : List Value, us.length = ys.length ∧ (∀ (i : Nat) (x : AV) (u : Value), ys[i]? = some x → us[i]? = some u → F w fz x u) ∧ (∀ u ∈ us, u.cells.size = sz) ∧
   ((v = .slice none 0 0 ∧ ys = []) ∨ ∃ (ad : Addr) (cap : Nat), v = .slice (some ad) ys.length cap ∧ (us = [] ∨ ad.spot = none) ∧ ∀ (i : Nat) (u : Value) (j : Nat) (c : Value), us[i]? = some u → u.cells[j]? = some c → w.cell? ⟨ad.block, ad.off + (i * sz + j), none⟩ = some c) := by
 cases hv with
 | own0 t n hd hb =>
  simp only [deepS] at h
  split at h
  ·rename_i r hr
   injection h with h
   injection h with h1 h2 h3
   subst h3
   have e0 : Am.sub r.xs 0 0 = [] := by simp [Am.sub]
   rw [e0]
   exact ⟨[], rfl, fun i x u h => by simp at h, by simp, .inl ⟨rfl, rfl⟩⟩
  ·cases h
 | own t off len ao c o n hd hb ha hl hc hn =>
  simp only [deepS] at h
  split at h
  ·rename_i r hr
   injection h with h
   injection h with h1 h2 h3
   subst h1 h2 h3
   have hR' := hR.rw t r hr
   have hm : n = r.xs.length := by simp [St.dm, hr] at hd; exact hd.symm
   subst hm
   unfold RowOk at hR'
   rw [hb] at hR'
   obtain ⟨e1, e2, e3, e4, cur, us, e5, e6, e7, e8, e9, e10⟩ := hR'
   have hlen : (Am.sub r.xs off len).length = len := by simp [Am.sub]; omega
   refine ⟨(us.drop off).take len, by rw [hlen]; simp; omega, fun i x u h1 h2 => ?_, fun u hu => e9 u (List.mem_of_mem_drop (List.mem_of_mem_take hu)), .inr ⟨⟨o.blk, ao, none⟩, c, by rw [hlen], .inr rfl, fun i u j cc h1 h2 => ?_⟩⟩
   ·simp only [Am.sub] at h1
    rw [List.getElem?_take] at h1 h2
    split at h1
    ·rename_i hi
     rw [if_pos hi] at h2
     rw [List.getElem?_drop] at h1 h2
     exact e8 _ x u h1 h2
    ·cases h1
   ·rw [List.getElem?_take] at h1
    split at h1
    ·rename_i hi
     rw [List.getElem?_drop] at h1
     have := e10 _ u j cc h1 h2
     rw [cell_of_row w _ _ _ _ _ e5]
     have hc0 : c ≠ 0 := by omega
     rw [ha.resolve_right (fun h => hc0 h.1), e1, show off * r.s + (i * r.s + j) = (off + i) * r.s + j by rw [Nat.add_mul]; omega]
     exact this
    ·cases h1
  ·cases h
 | f _ _ hf =>
  cases hf <;> simp only [deepS] at h <;> first | (cases h; done) | skip
  ·injection h with h
   injection h with h1 h2 h3
   subst h3
   exact ⟨[], rfl, fun i x u h => by simp at h, by simp, .inl ⟨rfl, rfl⟩⟩
  ·rename_i s' z' ad cap hm
   injection h with h
   injection h with h1 h2 h3
   subst h3
   exact ⟨[], rfl, fun i x u h => by simp at h, by simp, .inr ⟨ad, cap, rfl, .inl rfl, fun i u j c h => by simp at h⟩⟩
  ·rename_i s' z' xs us ad cap hl hF hz hc hsp hf hcap hm
   injection h with h
   injection h with h1 h2 h3
   subst h1 h2 h3
   exact ⟨us, hl, hF, hz, .inr ⟨ad, cap, rfl, .inr hsp, hc⟩⟩
 | dead => simp [deepS] at h
 | undef => simp [deepS] at h
 | optr => simp [deepS] at h
 | lk => simp [deepS] at h
 | agg => simp [deepS] at h
 | tup => simp [deepS] at h
theorem deepS_nil {y : AV} {v : Value} (hv : V w fz β s.dm y v) (h : deepS s.H y = some .nil) : v = .slice none 0 0 := by
 cases hv with
 | own0 t n hd hb => simp only [deepS] at h; split at h <;> cases h
 | own => simp only [deepS] at h; split at h <;> cases h
 | f _ _ hf => cases hf <;> simp only [deepS] at h <;> first | rfl | cases h
 | dead => simp [deepS] at h
 | undef => simp [deepS] at h
 | optr => simp [deepS] at h
 | lk => simp [deepS] at h
 | agg => simp [deepS] at h
 | tup => simp [deepS] at h
theorem srcL_ok (hR : Rel X s fz β a w) {sz : Nat} {y : AV} {v : Value} (hv : V w fz β s.dm y v) {ys : List AV} (h : srcL s.H sz y = some ys) :
  ∃ us : List Value, us.length = ys.length ∧ (∀ (i : Nat) (x : AV) (u : Value), ys[i]? = some x → us[i]? = some u → F w fz x u) ∧ (∀ u ∈ us, u.cells.size = sz) ∧
   ((∃ b, v = .string b ∧ sz = 1 ∧ us = strVs b ∧ b.size = ys.length) ∨ (v = .slice none 0 0 ∧ ys = []) ∨
    ∃ (ad : Addr) (cap : Nat), v = .slice (some ad) ys.length cap ∧ (us = [] ∨ ad.spot = none) ∧ ∀ (i : Nat) (u : Value) (j : Nat) (c : Value), us[i]? = some u → u.cells[j]? = some c → w.cell? ⟨ad.block, ad.off + (i * sz + j), none⟩ = some c) := by
 unfold srcL at h
 split at h
 ·rename_i b
  obtain ⟨h1, h2⟩ := need_some h
  obtain rfl := Option.some.inj h2
  have h1 := of_decide_eq_true h1
  subst h1
  obtain rfl := hv.str_inv
  refine ⟨strVs b, by simp [strVs, bytesL], ?_, ?_, .inl ⟨b, rfl, rfl, rfl, by simp [bytesL]⟩⟩
  ·intro i x u h1 h2
   simp only [bytesL, strVs, List.getElem?_map] at h1 h2
   cases hq : b.data.toList[i]? with
   | none => rw [hq] at h1; cases h1
   | some q =>
    rw [hq] at h1 h2
    obtain rfl := Option.some.inj h1
    obtain rfl := Option.some.inj h2
    exact .int _ _
  ·intro u hu
   simp only [strVs, List.mem_map] at hu
   obtain ⟨q, _, rfl⟩ := hu
   rfl
 ·rename_i hns
  split at h
  ·rename_i s' z' ys' hd
   obtain ⟨h1, h2⟩ := need_some h
   obtain rfl := Option.some.inj h2
   have h1 := of_decide_eq_true h1
   subst h1
   obtain ⟨us, g1, g2, g3, g4⟩ := deepS_sl hR hv hd
   exact ⟨us, g1, g2, g3, .inr g4⟩
  ·rename_i hd
   obtain rfl := Option.some.inj h
   exact ⟨[], rfl, fun i x u h => by simp at h, by simp, .inr (.inl ⟨deepS_nil hv hd, rfl⟩)⟩
  ·cases h
theorem firstCells_ok {P : Program} {v : Value} {n k : Nat} {us : List Value} (hz : ∀ u ∈ us, u.cells.size = 1) (h1 : ∀ u ∈ us, ∀ c ∈ u.cells, c.oneCell' = true) (hk : k ≤ us.length)
  (h : (∃ b, v = .string b ∧ us = strVs b) ∨ (v = .slice none 0 0 ∧ us = []) ∨
    ∃ (ad : Addr) (cap : Nat), v = .slice (some ad) us.length cap ∧ (us = [] ∨ ad.spot = none) ∧ ∀ (i : Nat) (u : Value) (j : Nat) (c : Value), us[i]? = some u → u.cells[j]? = some c → w.cell? ⟨ad.block, ad.off + (i * 1 + j), none⟩ = some c) :
  ∃ cs : List Value, cs.length = k ∧ (Builtin.firstCells 1 k v).run P w = .ok cs.toArray w ∧ (∀ c ∈ cs, c.oneCell' = true) ∧ ∀ (i : Nat) (u : Value), i < k → us[i]? = some u → ∃ c, cs[i]? = some c ∧ u.cells = #[c] := by
 rcases h with ⟨b, rfl, rfl⟩ | ⟨rfl, rfl⟩ | ⟨ad, cap, rfl, hsp, hc⟩
 ·refine ⟨(strVs b).take k, by simp; omega, ?_, ?_, ?_⟩
  ·simp only [Builtin.firstCells, Sem.run_pure]
   congr 1
   apply Array.ext'
   have hb : b = ⟨b.data.toList.toArray⟩ := by cases b; simp
   rw [hb, ByteArray.extract_mk]
   simp [strVs, List.map_take]
  ·intro c hc
   exact strVs_one b c (List.mem_of_mem_take hc)
  ·intro i u hi hu
   refine ⟨u, by rw [List.getElem?_take, if_pos hi]; exact hu, ?_⟩
   simp only [strVs, List.getElem?_map] at hu
   cases hq : b.data.toList[i]? with
   | none => rw [hq] at hu; cases hu
   | some q => rw [hq] at hu; obtain rfl := Option.some.inj hu; rfl
 ·simp at hk
  subst hk
  exact ⟨[], rfl, rfl, by simp, fun i u hi => by omega⟩
 ·have hget : ∀ (i : Nat) (hi : i < us.length), ∃ c, us[i].cells = #[c] := fun i hi => by
   have := hz us[i] (List.getElem_mem hi)
   exact ⟨us[i].cells[0]'(by omega), by
    apply Array.ext
    ·simpa using this
    ·intro j h1 h2
     have : j = 0 := by omega
     subst this
     rfl⟩
  let cs := us.flatMap fun u => u.cells.toList
  have hfl : ∀ (p : Nat), cs[p]? = (us[p]?).bind fun u => u.cells[0]? := fun p => by
   have := Great.flat_get (s := 1) (by omega) us hz p
   simpa [Nat.mod_one] using this
  have hcl : cs.length = us.length := by
   show (us.flatMap fun u => u.cells.toList).length = _
   rw [List.length_flatMap]
   have : us.map (fun u => u.cells.toList.length) = List.replicate us.length 1 := by
    apply List.eq_replicate_iff.2
    refine ⟨by simp, fun b hb => ?_⟩
    obtain ⟨u, hu, rfl⟩ := List.mem_map.1 hb
    simpa using hz u hu
   rw [this]; simp
  refine ⟨cs.take k, by simp; omega, ?_, ?_, ?_⟩
  ·have := run_loadCells_list (P := P) w ad (cs.take k) (fun j c hj => by
    rw [List.getElem?_take] at hj
    split at hj
    ·rw [hfl] at hj
     cases hq : us[j]? with
     | none => rw [hq] at hj; cases hj
     | some u =>
      rw [hq] at hj
      rw [addr_eta (hsp.resolve_left (by rintro rfl; simp at hq)), addr_add]
      have := hc j u 0 c hq (by simpa using hj)
      simpa using this
    ·cases hj)
   have hlen : (cs.take k).length = k := by simp; omega
   rw [hlen] at this
   simpa [Builtin.firstCells] using this
  ·intro c hc
   have hc := List.mem_of_mem_take hc
   obtain ⟨u, hu, hc⟩ := List.mem_flatMap.1 hc
   exact h1 u hu c (by simpa using hc)
  ·intro i u hi hu
   have hil : i < us.length := (List.getElem?_eq_some_iff.1 hu).1
   obtain ⟨c, hcc⟩ := hget i hil
   have : us[i] = u := by rw [List.getElem?_eq_getElem hil] at hu; exact Option.some.inj hu
   subst this
   refine ⟨c, ?_, hcc⟩
   rw [List.getElem?_take, if_pos hi, hfl, hu]
   simp [hcc]
theorem cpA_ok (hR : Rel X s fz β a w) {x y : AV} {vx vy : Value} (hx : V w fz β s.dm x vx) (hy : V w fz β s.dm y vy) {dT : TypeId} (sT ty : TypeId) {e : Eff} (h : cpA X.P s.H s.fr dT x y = some e) :
  ∃ v w', (Builtin.copy_ #[dT, sT] ty #[vx, vy]).run X.P w = .ok v w' ∧ F w' fz e.val v ∧ (e.new = [] ∧ e.fz = [] ∧ e.xs = none) ∧ Rel X { s with H := putW s.H e.wr } fz β a w' := by
 unfold cpA at h
 split at h
 ·rename_i t off n el sz bt z hE
  obtain ⟨inf, zz, hu, hinf, hzz, hsi, _, _⟩ := elS_some hE
  split at h
  ·rename_i r ys hr hys
   obtain ⟨hc, h⟩ := need_some h
   obtain rfl := Option.some.inj h
   simp only [Bool.and_eq_true, Bool.not_eq_true', decide_eq_true_eq] at hc
   obtain ⟨⟨hfr, hrs⟩, hsz1⟩ := hc
   obtain ⟨us, hul, huF, huz, hcase⟩ := srcL_ok hR hy hys
   -- lengths
   have hlen : (Builtin.lenOf vy).run X.P w = .ok ys.length w := by
    rcases hcase with ⟨b, rfl, _, _, hb⟩ | ⟨rfl, rfl⟩ | ⟨ad, cap, rfl, _, _⟩
    ·simp [Builtin.lenOf, hb]
    ·simp [Builtin.lenOf]
    ·simp [Builtin.lenOf]
   have hus1 : ∀ u ∈ us, ∀ c ∈ u.cells, c.oneCell' = true := fun u hu c hc => by
    obtain ⟨i, hi, rfl⟩ := List.getElem_of_mem hu
    have hiy : i < ys.length := by omega
    exact (huF i ys[i] us[i] (by simp [hiy]) (by simp [hi])).cells_one c hc
   have hcase' : (∃ b, vy = .string b ∧ us = strVs b) ∨ (vy = .slice none 0 0 ∧ us = []) ∨
    ∃ (ad : Addr) (cap : Nat), vy = .slice (some ad) us.length cap ∧ (us = [] ∨ ad.spot = none) ∧ ∀ (i : Nat) (u : Value) (j : Nat) (c : Value), us[i]? = some u → u.cells[j]? = some c → w.cell? ⟨ad.block, ad.off + (i * 1 + j), none⟩ = some c := by
    rcases hcase with ⟨b, h1, _, h2, _⟩ | ⟨h1, h2⟩ | ⟨ad, cap, h1, h2, h3⟩
    ·exact .inl ⟨b, h1, h2⟩
    ·exact .inr (.inl ⟨h1, by rw [h2] at hul; exact List.length_eq_zero_iff.1 hul⟩)
    ·exact .inr (.inr ⟨ad, cap, by rw [hul]; exact h1, h2, h3⟩)
   obtain ⟨cs, hcl, hrunF, hc1, hcs⟩ := firstCells_ok (P := X.P) (k := min ys.length n) (n := 0) huz hus1 (by omega) hcase'
   cases hx with
   | f _ _ hf => cases hf
   | own0 _ m hd hb =>
    have hrx : r.xs = [] := by
     have := hR.rw t r hr
     unfold RowOk at this
     rw [hb] at this
     exact this
    refine ⟨.int .i64 ((min ys.length 0 : Nat) : Int), w, ?_, .int _ _, ⟨rfl, rfl, rfl⟩, ?_⟩
    ·have e0 : min ys.length 0 = 0 := by omega
     rw [e0] at hrunF
     simp [Builtin.copy_, run_underlying hu, hlen, min_toNat, e0, run_sizeOf' hinf, hsi, hsz1, hrunF, goInt]
    ·have e1 : putW s.H [(t, { r with xs := cpl r.xs 0 (min ys.length 0) ys })] = s.H := by
      funext i
      simp only [putW, upd_apply]
      by_cases c : i = t
      ·rw [if_pos c, c, hr]
       congr 1
       cases r
       simp at hrx
       subst hrx
       simp [cpl]
      ·rw [if_neg c]
     rw [e1]
     exact hR
   | own _ _ _ ao c o m hd hb ha hl hcc hn =>
    have hRow := hR.rw t r hr
    have hRow' := hRow
    unfold RowOk at hRow
    rw [hb] at hRow
    obtain ⟨e1, e2, e3, e4, cur, vs, e5, e6, e7, e8, e9, e10⟩ := hRow
    have hm : m = r.xs.length := by simp [St.dm, hr] at hd; exact hd.symm
    subst hm
    have hne : s.H t ≠ none := by rw [hr]; simp
    generalize hk : min ys.length n = k at *
    rcases Nat.eq_zero_or_pos k with hk0 | hk0
    ·subst hk0
     have hcs0 : cs = [] := List.length_eq_zero_iff.1 hcl
     refine ⟨.int .i64 ((0 : Nat) : Int), w, ?_, .int _ _, ⟨rfl, rfl, rfl⟩, ?_⟩
     ·simp [Builtin.copy_, run_underlying hu, hlen, min_toNat, hk, run_sizeOf' hinf, hsi, hsz1, hrunF, goInt, hcs0, storeCells]
     ·have e1 : putW s.H [(t, { r with xs := cpl r.xs off 0 ys })] = s.H := by
       funext i
       simp only [putW, upd_apply]
       by_cases c : i = t
       ·rw [if_pos c, c, hr]
        congr 1
        cases r
        simp [cpl]
       ·rw [if_neg c]
      rw [e1]
      exact hR
    ·have hc0 : c ≠ 0 := by omega
     have hao : ao = off := by rw [ha.resolve_right (fun h => hc0 h.1), e1, hrs, Nat.mul_one]
     subst hao
     have hfit : ao + 0 + cs.length ≤ cur.size := by rw [e6, hrs, hcl]; omega
     have hst := run_storeCells_at X.P o.blk ao r.e cs 0 cur w e5 hfit hc1
     simp only [Nat.add_zero] at hst
     refine ⟨.int .i64 ((k : Nat) : Int), w.setRow o.blk (cur.toList.take ao ++ cs ++ cur.toList.drop (ao + cs.length)).toArray, ?_, .int _ _, ⟨rfl, rfl, rfl⟩, ?_⟩
     ·simp [Builtin.copy_, run_underlying hu, hlen, min_toNat, hk, run_sizeOf' hinf, hsi, hsz1, hrunF, goInt, hst]
     ·refine hR.write (t := t) (r := r) (r' := { r with xs := cpl r.xs ao k ys }) hr hb hfr rfl rfl rfl (size_setRow w _ _) (fun b hbb => setRow_other w _ _ _ hbb) (by simp [cpl]; omega) ?_
      unfold RowOk
      rw [hb]
      have hnz : ¬ fz o.blk := (hR.fl t o hne hb).1 hfr
      have hfzw : ∀ b, fz b → (w.setRow o.blk (cur.toList.take ao ++ cs ++ cur.toList.drop (ao + cs.length)).toArray).heap[b]? = w.heap[b]? := fun b hb' => setRow_other w _ _ _ (fun e => hnz (e ▸ hb'))
      have hL : (cur.toList.take ao).length = ao := by simp; omega
      have hL2 : (us.take k).length = k := by simp; omega
      have hL3 : (vs.take ao).length = ao := by simp; omega
      have hL4 : (r.xs.take ao).length = ao := by simp; omega
      have hL5 : (ys.take k).length = k := by simp; omega
      refine ⟨e1, e2, by simp [cpl]; omega, e4, _, vs.take ao ++ us.take k ++ vs.drop (ao + k), setRow_heap w o.blk cur _ r.e (0, 0) e5, ?_, by simp [cpl, e7]; omega, ?_, ?_, ?_⟩
      ·simp [hcl]; rw [← e6]; omega
      ·intro i q u h1 h2
       simp only [cpl] at h1
       rw [List.getElem?_append] at h1 h2
       simp only [List.length_append, hL2, hL3, hL4, hL5] at h1 h2
       split at h1
       ·rename_i c1
        rw [if_pos c1] at h2
        rw [List.getElem?_append] at h1 h2
        simp only [hL3, hL4] at h1 h2
        split at h1
        ·rename_i c2
         rw [if_pos c2] at h2
         rw [List.getElem?_take, if_pos c2] at h1 h2
         exact (e8 i q u h1 h2).mono hfzw (fun _ z => z)
        ·rename_i c2
         rw [if_neg c2] at h2
         rw [List.getElem?_take, if_pos (by omega)] at h1 h2
         exact (huF _ q u h1 h2).mono hfzw (fun _ z => z)
       ·rename_i c1
        rw [if_neg c1] at h2
        rw [List.getElem?_drop] at h1 h2
        exact (e8 _ q u h1 h2).mono hfzw (fun _ z => z)
      ·intro u hu
       rcases List.mem_append.1 hu with hu | hu
       ·rcases List.mem_append.1 hu with hu | hu
        ·exact e9 u (List.mem_of_mem_take hu)
        ·rw [hrs]; exact huz u (List.mem_of_mem_take hu)
       ·exact e9 u (List.mem_of_mem_drop hu)
      ·intro i u j cc h1 h2
       have hj0 : j = 0 := by
        have hus : u.cells.size = 1 := by
         have hu := List.mem_of_getElem? h1
         rcases List.mem_append.1 hu with hu | hu
         ·rcases List.mem_append.1 hu with hu | hu
          ·rw [← hrs]; exact e9 u (List.mem_of_mem_take hu)
          ·exact huz u (List.mem_of_mem_take hu)
         ·rw [← hrs]; exact e9 u (List.mem_of_mem_drop hu)
        have := (Array.getElem?_eq_some_iff.1 h2).1
        omega
       subst hj0
       rw [hrs, Nat.mul_one, Nat.add_zero]
       simp only [List.getElem?_toArray]
       rw [List.getElem?_append] at h1 ⊢
       simp only [List.length_append, hL2, hL3, hL, hcl] at h1 ⊢
       split at h1
       ·rename_i c1
        rw [if_pos c1]
        rw [List.getElem?_append] at h1 ⊢
        simp only [hL3, hL] at h1 ⊢
        split at h1
        ·rename_i c2
         rw [if_pos c2, List.getElem?_take, if_pos c2]
         rw [List.getElem?_take, if_pos c2] at h1
         have := e10 i u 0 cc h1 h2
         rw [hrs] at this
         simpa using this
        ·rename_i c2
         rw [if_neg c2]
         rw [List.getElem?_take, if_pos (by omega)] at h1
         obtain ⟨c', hc', hcc'⟩ := hcs (i - ao) u (by omega) h1
         rw [hc']
         rw [hcc'] at h2
         simpa using h2
       ·rename_i c1
        rw [if_neg c1, List.getElem?_drop]
        rw [List.getElem?_drop] at h1
        have := e10 _ u 0 cc h1 h2
        rw [hrs] at this
        simpa using this
  ·cases h
 ·cases h
end
end Go.Proofs.YtpchdjdochkjpaaGreatDoor.Am
set_option linter.unusedVariables false
set_option linter.unusedSimpArgs false
namespace Go.Proofs.YtpchdjdochkjpaaGreatDoor.Am
open Go Go.RowKit
section
variable {X : Cx} {s : St} {fz : Nat → Prop} {β : Nat → Option Own} {a : Act} {w : World}
theorem deepAll_F {H : Nat → Option Row} {w : World} {fz fz' : Nat → Prop} {β : Nat → Option Own} {dm : Nat → Option Nat} : ∀ {cs ds : List AV} {vs : List Value}, Pw w fz β dm cs vs → Lent H w fz fz' β dm (cs.flatMap tags) → deepAll H cs = some ds →
  vs.length = ds.length ∧ ∀ (i : Nat) (x : AV) (v : Value), ds[i]? = some x → vs[i]? = some v → F w fz' x v
 | [], ds, vs, hP, _, h => by
  simp only [deepAll, Option.some.injEq] at h
  subst h
  exact ⟨hP.1, fun i x v h => by simp at h⟩
 | x :: cs, ds, [], hP, _, h => by have := hP.1; simp at this
 | x :: cs, ds, v :: vs, hP, hL, h => by
  simp only [deepAll] at h
  split at h
  ·rename_i y ys hy hys
   obtain rfl := Option.some.inj h
   have h1 := deep_F (hP.2 0 x v rfl rfl) ⟨hL.sub, fun t r ht => hL.rows t r (by simp [ht]), fun t o ht => hL.fro t o (by simp [ht])⟩ hy
   have h2 := deepAll_F (cs := cs) (vs := vs) ⟨by have := hP.1; simpa using this, fun i a b c d => hP.2 (i + 1) a b (by simpa using c) (by simpa using d)⟩ ⟨hL.sub, fun t r ht => hL.rows t r (by rw [List.flatMap_cons]; exact List.mem_append_right _ ht), fun t o ht => hL.fro t o (by rw [List.flatMap_cons]; exact List.mem_append_right _ ht)⟩ hys
   refine ⟨by simp [h2.1], fun i a b c d => ?_⟩
   cases i with
   | zero => simp at c d; subst c d; exact h1
   | succ i => exact h2.2 i a b (by simpa using c) (by simpa using d)
  ·cases h
theorem Pw.of_map {α : Type} {f : α → AV} {g : α → Value} {dm : Nat → Option Nat} (l : List α) (h : ∀ x ∈ l, V w fz β dm (f x) (g x)) : Pw w fz β dm (l.map f) (l.map g) := by
 refine ⟨by simp, fun i x v h1 h2 => ?_⟩
 rw [List.getElem?_map] at h1 h2
 cases hq : l[i]? with
 | none => rw [hq] at h1; cases h1
 | some q =>
  rw [hq] at h1 h2
  obtain rfl := Option.some.inj h1
  obtain rfl := Option.some.inj h2
  exact h q (List.mem_of_getElem? hq)
theorem Pw.tags_dm {dm : Nat → Option Nat} {cs : List AV} {vs : List Value} (h : Pw w fz β dm cs vs) : ∀ t ∈ cs.flatMap tags, dm t ≠ none := by
 intro t ht
 obtain ⟨y, hy, ht⟩ := List.mem_flatMap.1 ht
 obtain ⟨i, hi, rfl⟩ := List.getElem_of_mem hy
 have hiv : i < vs.length := by have := h.1; omega
 exact (h.2 i cs[i] vs[i] (by simp [hi]) (by simp [hiv])).tags_dm t ht
theorem run_buildSlice0 {P : Program} {w : World} {t e : TypeId} {ie : TypeInfo} (hu : P.underlying t = some (.slice e)) (hie : P.info? e = some ie) {f : Nat × Operand → Nat × Value} :
  (Instr.buildSlice t 0 (#[].map f)).run P w = .ok (.slice (some ⟨w.heap.size, 0, none⟩) 0 0) (w.alloc (.cells #[] e)) := by
 simp [Instr.buildSlice, run_underlying hu, sizeOf, typeInfo, hie, newRow, Instr.fill]
 congr 2
 exact Array.eq_empty_of_size_eq_zero (by simp)
theorem act_ok (hR : Rel X s fz β a w) {o : Oper} {d : Nat} {e : Eff} (h : act X.P X.N X.G s d o.op = some e) (hd : o.dst = some d ∨ (o.dst = none ∧ e.new = [])) :
  ∃ v w' β' fz', ((execOp a.eval o).run X.P w = .ok (.value v) w' ∨ ((execOp a.eval o).run X.P w = .ok .skip w' ∧ v = undef)) ∧ Rel X (s.app o.dst e) fz' β' (a.put o.dst v) w' := by
 obtain ⟨dst, op, type, pos, after, guard⟩ := o
 simp only at h hd ⊢
 have E := fun x => ev_V hR x
 have hsome : ∀ {e' : Eff}, e'.new ≠ [] → e = e' → dst = some d := fun hne he => by
  rcases hd with hd | hd
  ·exact hd
  ·exact absurd (he ▸ hd.2) hne
 cases op with
 | move x => exact fin_val hR (by simp [execOp]) (E x) h
 | assign x => exact fin_val hR (by simp [execOp]) (E x) h
 | pick c x y =>
  simp only [act] at h
  split at h
  ·rename_i t hc
   have h1 := E c
   rw [hc] at h1
   have h2 := h1.bool_inv
   refine fin_val hR (v := if t then a.eval x else a.eval y) (by simp [execOp, h2, asBool]) ?_ h
   cases t
   ·exact E y
   ·exact E x
  ·cases h
 | binOp b t x y yt =>
  refine fin_opt hR h fun z hz => ?_
  obtain ⟨v, h1, h2⟩ := bn_ok (xo := x) (yo := y) (E x) (E y) hz
  exact ⟨v, by simp only [execOp]; rw [Sem.run_bind, h1]; rfl, .f _ _ h2⟩
 | unOp b t x =>
  refine fin_opt hR h fun z hz => ?_
  obtain ⟨v, h1, h2⟩ := un_ok (P := X.P) (E x) hz
  exact ⟨v, by simp only [execOp]; rw [Sem.run_bind, h1]; rfl, .f _ _ h2⟩
 | convert p q x =>
  refine fin_opt hR h fun z hz => ?_
  have ht : tagS (ev X.N X.G s.env x) = tags (ev X.N X.G s.env x) ∨ ∃ cs, ev X.N X.G s.env x = .agg cs := by
   cases hq : ev X.N X.G s.env x with
   | agg cs => exact .inr ⟨cs, rfl⟩
   | _ => exact .inl rfl
  have hL : Lent s.H w fz (fun b => fz b ∨ ∃ t o, s.H t ≠ none ∧ β t = some o ∧ b = o.blk) β s.dm (tagS (ev X.N X.G s.env x)) := by
   rcases ht with ht | ⟨cs, hcs⟩
   ·rw [ht]
    exact hR.lent_of (fun b hb => .inl hb) (E x) (fun t _ o ho hb => .inr ⟨t, o, ho, hb, rfl⟩)
   ·rw [hcs]
    exact ⟨fun b hb => .inl hb, fun t r ht => by simp [tagS] at ht, fun t o ht => by simp [tagS] at ht⟩
  obtain ⟨v, h1, h2⟩ := cvt_ok (E x) hL hz
  exact ⟨v, by simp only [execOp]; rw [Sem.run_bind, h1]; rfl, .f _ _ h2⟩
 | extract x i =>
  simp only [act] at h
  split at h
  ·rename_i vs hx
   refine fin_opt hR h fun z hz => ?_
   have h1 := E x
   rw [hx] at h1
   obtain ⟨us, hu, hl, hV⟩ := h1.tup_inv
   have hi : i < vs.length := (List.getElem?_eq_some_iff.1 hz).1
   have hiu : i < us.length := by omega
   refine ⟨us[i], ?_, hV i z us[i] hz (by simp [hiu])⟩
   simp [execOp, hu, Instr.extract, hiu]
  ·cases h
 | field t x f =>
  simp only [act] at h
  split at h
  ·rename_i o g n hf
   split at h
   ·rename_i cs hx
    refine fin_opt hR h fun z hz => ?_
    have h1 := E x
    rw [hx] at h1
    obtain ⟨v, h2, h3⟩ := field_ok h1 hf hz
    exact ⟨v, by simp only [execOp]; rw [Sem.run_bind, h2]; rfl, h3⟩
   ·cases h
  ·cases h
 | index t x i =>
  refine fin_opt hR h fun z hz => ?_
  obtain ⟨v, h1, h2⟩ := idx_ok (E x) (E i) hz
  exact ⟨v, by simp only [execOp]; rw [Sem.run_bind, h1]; rfl, h2⟩
 | indexAddr t x i =>
  refine fin_opt hR h fun z hz => ?_
  obtain ⟨v, h1, h2⟩ := idxA_ok hR.rs (E x) (E i) hz
  exact ⟨v, by simp only [execOp]; rw [Sem.run_bind, h1]; rfl, h2⟩
 | fieldAddr t x f =>
  refine fin_opt hR h fun z hz => ?_
  obtain ⟨v, h1, h2⟩ := ptrFd_ok (E x) hz
  exact ⟨v, by simp only [execOp]; rw [Sem.run_bind, h1]; rfl, h2⟩
 | slice t x lo hi mx =>
  cases mx with
  | some m => simp [act] at h
  | none =>
   refine fin_opt hR h fun z hz => ?_
   obtain ⟨v, h1, h2⟩ := cut_ok (vl := lo.map a.eval) (vh := hi.map a.eval) hR.rs (E x)
    (fun y hy => by cases lo with
     | none => cases hy
     | some l => simp only [Option.map_some, Option.some.injEq] at hy; subst hy; exact ⟨_, rfl, E l⟩)
    (fun hn => by cases lo with
     | none => rfl
     | some l => cases hn)
    (fun y hy => by cases hi with
     | none => cases hy
     | some l => simp only [Option.map_some, Option.some.injEq] at hy; subst hy; exact ⟨_, rfl, E l⟩)
    (fun hn => by cases hi with
     | none => rfl
     | some l => cases hn) hz
   exact ⟨v, by simp only [execOp]; rw [Sem.run_bind]; simp only [Option.map_none]; rw [h1]; rfl, h2⟩
 | load ty p =>
  refine fin_opt hR h fun z hz => ?_
  obtain ⟨u, h1, h2⟩ := ldX_V hR (E p) hz
  exact ⟨u, by simp only [execOp]; rw [Sem.run_bind, h1]; rfl, .f _ _ h2⟩
 | nilCheck x =>
  refine fin_opt hR h fun z hz => ?_
  refine ⟨a.eval x, ?_, ?_⟩
  ·have hv := E x
   revert hz
   generalize ev X.N X.G s.env x = y at hv
   intro hz
   have hp : ∃ ad, a.eval x = .pointer (some ad) := by
    generalize a.eval x = q at hv ⊢
    unfold nlC at hz
    split at hz
    ·cases hv with
     | f _ _ hf => cases hf
     | optr => exact ⟨_, rfl⟩
    ·cases hv.fptr_inv; exact ⟨_, rfl⟩
    ·cases hv with | f _ _ hf => cases hf; exact ⟨_, rfl⟩
    ·cases hz
   obtain ⟨ad, hp⟩ := hp
   simp [execOp, hp]
  ·have hv := E x
   have : z = ev X.N X.G s.env x := by
    revert hz
    generalize ev X.N X.G s.env x = y
    intro hz
    unfold nlC at hz
    split at hz <;> first | exact (Option.some.inj hz).symm | cases hz
   rw [this]; exact hv
 | store ty p x =>
  obtain ⟨w', fz', h1, h2, h3, h4⟩ := st_ok hR (E p) (E x) h
  have h5 := h4.put (x := .undef) (v := undef) .undef dst
  refine ⟨undef, w', β, fz', .inr ⟨by simp only [execOp]; rw [Sem.run_bind, h1]; rfl, rfl⟩, ?_⟩
  cases dst with
  | none =>
   have : s.app none e = { s with H := putW s.H e.wr, fr := frz s.fr e.fz } := by simp only [St.app, h3.2]; rfl
   rw [this]; exact h5
  | some d' =>
   have : s.app (some d') e = { s with env := upd s.env d' .undef, H := putW s.H e.wr, fr := frz s.fr e.fz } := by
    simp only [St.app, h2, h3.1, h3.2, newH, newF]; rfl
   rw [this]; exact h5
 | alloc ty =>
  simp only [act] at h
  split at h
  ·rename_i g n hk
   obtain ⟨hc, h⟩ := need_some h
   obtain rfl := Option.some.inj h
   obtain rfl := hsome (by simp) rfl
   simp only [Bool.and_eq_true, decide_eq_true_eq] at hc
   obtain ⟨⟨hn, hsz⟩, hpos⟩ := hc
   obtain ⟨dd, inf, _, hinf, _, hsi⟩ := kd_some hk
   have hz : ∃ z, inf.zero = some z ∧ zv X.P ty = cav z := by
    unfold zv at hsz ⊢
    rw [hinf] at hsz ⊢
    simp only at hsz ⊢
    cases hq : inf.zero with
    | none => rw [hq] at hsz; simp [sizedAs, AV.scalar] at hsz
    | some z => exact ⟨z, rfl, rfl⟩
   obtain ⟨z, hz1, hz2⟩ := hz
   refine fin_new (r := ⟨ty, n, zv X.P ty, [zv X.P ty]⟩) (fl := []) (cur := z.cells) (cap := 1) hR rfl hn rfl (v := .pointer (some ⟨w.heap.size, 0, none⟩)) ?_ (fun fz' _ _ => ?_) (fun w' fz' β' dm hb hdm => ?_)
   ·simp [execOp, Instr.alloc, run_zeroValue' hinf hz1, newVar, newRow]
   ·rw [hz2] at hsz ⊢
    obtain ⟨hF, hcs⟩ := cav_F (w := w) (fz := fz') hsz
    refine ⟨[z], hpos, by simp, by decide, by simp [hcs], rfl, ?_, ?_, ?_⟩
    ·intro i x u h1 h2
     rw [List.getElem?_singleton] at h1 h2
     split at h1
     ·rename_i hi
      rw [if_pos hi] at h2
      obtain rfl := Option.some.inj h1
      obtain rfl := Option.some.inj h2
      exact hF
     ·cases h1
    ·intro u hu
     obtain rfl := List.mem_singleton.1 hu
     exact hcs
    ·intro i u j c h1 h2
     rw [List.getElem?_singleton] at h1
     split at h1
     ·rename_i hi
      subst hi
      obtain rfl := Option.some.inj h1
      simpa using h2
     ·cases h1
   ·have := V.optr (w := w') (fz := fz') (β := β') (dm := dm) (tg d 0) 0 0 _ 1 hdm hb (by omega)
    simpa using this
  ·cases h
 | box ty x =>
  simp only [act] at h
  split at h
  ·rename_i g n y hk hy
   obtain ⟨hc, h⟩ := need_some h
   obtain rfl := Option.some.inj h
   obtain rfl := hsome (by simp) rfl
   simp only [Bool.and_eq_true, decide_eq_true_eq] at hc
   obtain ⟨⟨⟨hn, hsz⟩, hpos⟩, htag⟩ := hc
   refine fin_new (r := ⟨ty, n, zv X.P ty, [y]⟩) (fl := tags (ev X.N X.G s.env x)) (cur := (a.eval x).cells) (cap := 1) hR rfl hn htag (v := .pointer (some ⟨w.heap.size, 0, none⟩)) ?_ (fun fz' f1 f2 => ?_) (fun w' fz' β' dm hb hdm => ?_)
   ·simp [execOp, Instr.box, newVar, newRow]
   ·have hF := deep_F (E x) (hR.lent_of f1 (E x) f2) hy
    have hcs := sized_cells hF hsz
    refine ⟨[a.eval x], hpos, by simp, by decide, by simp [hcs], rfl, ?_, ?_, ?_⟩
    ·intro i x u h1 h2
     rw [List.getElem?_singleton] at h1 h2
     split at h1
     ·rename_i hi
      rw [if_pos hi] at h2
      obtain rfl := Option.some.inj h1
      obtain rfl := Option.some.inj h2
      exact hF
     ·cases h1
    ·intro u hu
     obtain rfl := List.mem_singleton.1 hu
     exact hcs
    ·intro i u j c h1 h2
     rw [List.getElem?_singleton] at h1
     split at h1
     ·rename_i hi
      subst hi
      obtain rfl := Option.some.inj h1
      simpa using h2
     ·cases h1
   ·have := V.optr (w := w') (fz := fz') (β := β') (dm := dm) (tg d 0) 0 0 _ 1 hdm hb (by omega)
    simpa using this
  ·cases h
 | build t ps =>
  refine fin_opt hR h fun z hz => ?_
  obtain ⟨v, h1, h2⟩ := mkAgg_ok (w := w) (fz := fz) (β := β) (dm := s.dm) (qs := ps.map fun (i, x) => (i, a.eval x)) (by simp) (by
   have := Pw.of_map (w := w) (fz := fz) (β := β) (dm := s.dm) (f := fun p : Nat × Operand => ev X.N X.G s.env p.2) (g := fun p => a.eval p.2) ps.toList (fun p _ => E p.2)
   simpa [List.map_map, Function.comp_def] using this) hz
  exact ⟨v, by simp only [execOp]; rw [Sem.run_bind, h1]; rfl, h2⟩
 | buildSlice t n ps =>
  simp only [act] at h
  split at h
  ·rename_i el sz bt z xs hE hl
   split at h
   ·rename_i ys hys
    obtain ⟨hc, h⟩ := need_some h
    obtain rfl := Option.some.inj h
    obtain rfl := hsome (by simp) rfl
    simp only [Bool.and_eq_true, decide_eq_true_eq, List.all_eq_true] at hc
    obtain ⟨⟨⟨⟨hn, hall⟩, hpos⟩, hbig⟩, htag⟩ := hc
    obtain ⟨inf, zz, hu, hinf, hzz, hsi, _, _⟩ := elS_some hE
    obtain ⟨hidx, hxs⟩ := need_some hl
    have hidx := of_decide_eq_true hidx
    have hxs := Option.some.inj hxs
    have hxs' : xs = ps.toList.map fun p => ev X.N X.G s.env p.2 := by rw [← hxs]; simp [List.map_map, Function.comp_def]
    have hP := Pw.of_map (w := w) (fz := fz) (β := β) (dm := s.dm) (f := fun p : Nat × Operand => ev X.N X.G s.env p.2) (g := fun p => a.eval p.2) ps.toList (fun p _ => E p.2)
    rw [← hxs'] at hP
    have hlen : ps.toList.length = n := by
     have := congrArg List.length hidx
     simpa using this
    have hysl : ys.length = n := by
     obtain ⟨h1, _⟩ := deepAll_F (fz' := fun b => fz b ∨ ∃ t o, s.H t ≠ none ∧ β t = some o ∧ b = o.blk) hP (hR.lent (fun b hb => .inl hb) (fun t _ o ho hb => .inr ⟨t, o, ho, hb, rfl⟩) (fun t ht => .inl (fun e => hP.tags_dm t ht (by simp [St.dm, e])))) hys
     simp at h1; rw [Array.length_toList] at hlen; omega
    have hparts : (ps.map fun (i, x) => (i, a.eval x)).toList = ((ps.toList.map fun p => a.eval p.2).zipIdx 0).map fun x => (x.2, x.1) := by
     apply List.ext_getElem?
     intro i
     simp only [Array.toList_map, List.getElem?_map, List.getElem?_zipIdx]
     have hi := congrArg (fun l => l[i]?) hidx
     simp only [List.getElem?_map, List.map_map, Function.comp_def] at hi
     cases hq : ps.toList[i]? with
     | none => simp
     | some p =>
      rw [hq] at hi
      simp only [Option.map_some] at hi ⊢
      have hin : i < n := by rw [← hlen]; exact (List.getElem?_eq_some_iff.1 hq).1
      simp [hin] at hi
      simp [hi]
    have husz : ∀ fz' : Nat → Prop, (∀ (i : Nat) (x : AV) (v : Value), ys[i]? = some x → (ps.toList.map fun p => a.eval p.2)[i]? = some v → F w fz' x v) → ∀ v ∈ (ps.toList.map fun p => a.eval p.2), v.cells.size = sz := by
     intro fz' hF v hv
     obtain ⟨i, hi, rfl⟩ := List.getElem_of_mem hv
     have hiy : i < ys.length := by simp at hi; rw [Array.length_toList] at hlen; omega
     exact sized_cells (hF i ys[i] _ (by simp [hiy]) (List.getElem?_eq_getElem hi)) (hall _ (List.getElem_mem hiy))
    have hLent : ∀ fz' : Nat → Prop, (∀ b, fz b → fz' b) → (∀ t ∈ xs.flatMap tags, ∀ o, s.H t ≠ none → β t = some o → fz' o.blk) → Lent s.H w fz fz' β s.dm (xs.flatMap tags) := fun fz' f1 f2 =>
     hR.lent f1 f2 (fun t ht => .inl (fun e => hP.tags_dm t ht (by simp [St.dm, e])))
    have hsz0 := husz _ (deepAll_F (fz' := fun b => fz b ∨ ∃ t o, s.H t ≠ none ∧ β t = some o ∧ b = o.blk) hP (hLent _ (fun b hb => .inl hb) (fun t _ o ho hb => .inr ⟨t, o, ho, hb, rfl⟩)) hys).2
    have hfill := Great.fill_whole (s := sz) hpos (ps.toList.map fun p => a.eval p.2) ((Array.range (n * sz)).map (zz.cells[· % zz.cells.size]!)) hsz0 (by simp [hlen])
    rw [← hparts, ← hsi] at hfill
    refine fin_new (r := ⟨el, sz, z, ys⟩) (fl := xs.flatMap tags) (cur := ((ps.toList.map fun p => a.eval p.2).flatMap fun v => v.cells.toList).toArray) (cap := n) hR rfl hn htag (v := .slice (some ⟨w.heap.size, 0, none⟩) n n) ?_ (fun fz' f1 f2 => ?_) (fun w' fz' β' dm hb hdm => ?_)
    ·simp only [execOp]
     rcases Nat.eq_zero_or_pos n with hn0 | hn0
     ·subst hn0
      have hps : ps = #[] := by
       have := List.eq_nil_of_length_eq_zero hlen
       simpa using this
      subst hps
      rw [Sem.run_bind, run_buildSlice0 hu hinf]
      rfl
     ·rw [Sem.run_bind, run_buildSlice w t el n _ _ inf zz hu hinf hzz (by rw [hsi]; omega) (by rw [hsi]; exact Nat.ne_of_gt (Nat.mul_pos hn0 hpos)) hfill]
      rfl
    ·have hF := (deepAll_F hP (hLent fz' f1 f2) hys).2
     have hs := husz fz' hF
     refine ⟨ps.toList.map fun p => a.eval p.2, hpos, by simp [hysl], ?_, ?_, by simp [hlen, hysl], hF, hs, ?_⟩
     ·have h1 : n ≤ n * sz := Nat.le_mul_of_pos_right n hpos
      have h2 : (16777216 : Nat) ≤ maxLen := by decide
      exact Nat.le_trans h1 (Nat.le_trans hbig h2)
     ·simp only [List.size_toArray]
      rw [List.length_flatMap]
      have : (ps.toList.map fun p => a.eval p.2).map (fun v => v.cells.toList.length) = List.replicate n sz := by
       apply List.eq_replicate_iff.2
       refine ⟨by simp [hlen], fun b hb => ?_⟩
       obtain ⟨v, hv, rfl⟩ := List.mem_map.1 hb
       simpa using hs v hv
      rw [this]; simp
     ·intro i u j c h1 h2
      have hg := Great.flat_get hpos (ps.toList.map fun p => a.eval p.2) hs (i * sz + j)
      have hj : j < sz := by
       have := hs u (List.mem_of_getElem? h1)
       have := (Array.getElem?_eq_some_iff.1 h2).1
       omega
      simp only [List.getElem?_toArray]
      rw [hg, Nat.mul_comm i sz, Nat.mul_add_div hpos, Nat.div_eq_of_lt hj, Nat.add_zero, h1, Nat.mul_add_mod, Nat.mod_eq_of_lt hj]
      exact h2
    ·have := V.own (w := w') (fz := fz') (β := β') (dm := dm) (tg d 0) 0 n 0 n _ ys.length hdm hb (.inl (by simp)) (Nat.le_refl _) (by simp) (by simp [hysl])
     simpa using this
   ·cases h
  ·cases h
 | makeSlice t l c =>
  simp only [act] at h
  split at h
  ·rename_i el sz by_ z n m hE hl hc
   obtain ⟨h1, h⟩ := need_some h
   obtain ⟨h2, h⟩ := need_some h
   obtain ⟨h3, h⟩ := need_some h
   obtain ⟨h4, h⟩ := need_some h
   obtain rfl := Option.some.inj h
   obtain rfl := hsome (by simp) rfl
   have h1 := of_decide_eq_true h1
   have h2 := of_decide_eq_true h2
   have h3 := of_decide_eq_true h3
   simp only [Bool.and_eq_true, decide_eq_true_eq] at h4
   obtain ⟨⟨hn, hsz⟩, hpos⟩ := h4
   obtain ⟨inf, zz, hu, hinf, hzz, hsi, hbi, hcz⟩ := elS_some hE
   have el1 := E l
   rw [hl] at el1
   have el2 := el1.int_inv
   have ec1 := E c
   rw [hc] at ec1
   have ec2 := ec1.int_inv
   have hm1 : m.toNat ≤ 281474976710656 := Nat.le_trans h3 (Nat.div_le_self _ _)
   have hm2 : m.toNat * by_ ≤ 281474976710656 := by
    rcases Nat.eq_zero_or_pos by_ with hb | hb
    ·rw [hb]; omega
    ·exact (Nat.le_div_iff_mul_le hb).1 h3
   have hrun := run_make (P := X.P) w t el inf zz hu hinf hzz .i64 .i64 n m h2 h1 (by
    rw [hbi]
    have : ((m.toNat * by_ : Nat) : Int) ≤ 281474976710656 := by omega
    rw [Int.natCast_mul] at this
    have hmm : ((m.toNat : Nat) : Int) = m := by omega
    rw [hmm] at this
    rw [Int.mul_comm]; exact this) (by omega)
   have hzc := cav_F (w := w) (fz := fz) (v := zz) (n := sz) (by rw [hcz]; exact hsz)
   refine fin_new (r := ⟨el, sz, z, List.replicate n.toNat z⟩) (fl := []) (cur := madeCells zz.cells (m.toNat * inf.size)) (cap := m.toNat) hR rfl hn rfl (v := .slice (some ⟨w.heap.size, 0, none⟩) n.toNat m.toNat) ?_ (fun fz' _ _ => ?_) (fun w' fz' β' dm hb hdm => ?_)
   ·simp only [execOp]
    rw [Sem.run_bind, el2, ec2, hrun]
    rfl
   ·refine ⟨List.replicate n.toNat zz, hpos, by simp; omega, ?_, by rw [size_madeCells, hsi], by simp, ?_, ?_, ?_⟩
    ·have h5 : (281474976710656 : Nat) ≤ maxLen := by decide
     exact Nat.le_trans hm1 h5
    ·intro i x u a1 a2
     rw [List.getElem?_replicate] at a1 a2
     split at a1
     ·rename_i hi
      rw [if_pos hi] at a2
      obtain rfl := Option.some.inj a1
      obtain rfl := Option.some.inj a2
      rw [← hcz]
      exact (cav_F (w := w) (fz := fz') (v := zz) (n := sz) (by rw [hcz]; exact hsz)).1
     ·cases a1
    ·intro u hu
     rw [List.eq_of_mem_replicate hu]
     exact hzc.2
    ·intro i u j c a1 a2
     rw [List.getElem?_replicate] at a1
     split at a1
     ·rename_i hi
      obtain rfl := Option.some.inj a1
      have hj : j < sz := by
       have := (Array.getElem?_eq_some_iff.1 a2).1
       rw [hzc.2] at this
       exact this
      have hlt : i * sz + j < m.toNat * inf.size := by
       rw [hsi]
       have : (i + 1) * sz ≤ m.toNat * sz := Nat.mul_le_mul_right _ (by omega)
       rw [Nat.add_mul] at this
       omega
      unfold madeCells
      rw [Array.getElem?_map]
      simp only [Array.getElem?_range, hlt, if_true, Option.map_some]
      rw [hzc.2, Nat.mul_comm i sz, Nat.mul_add_mod, Nat.mod_eq_of_lt hj]
      have hj' : j < zz.cells.size := by rw [hzc.2]; exact hj
      simp only [Array.getElem?_eq_getElem hj'] at a2
      simp [hj', a2]
     ·cases a1
   ·have := V.own (w := w') (fz := fz') (β := β') (dm := dm) (tg d 0) 0 n.toNat 0 m.toNat _ n.toNat (by simpa using hdm) hb (.inl (by simp)) (by omega) (by simp) (by simp)
    simpa using this
  ·cases h
 | call c =>
  obtain ⟨callee, args, argTypes⟩ := c
  cases callee with
  | builtin b =>
   cases b with
   | len =>
    simp only [act] at h
    split at h
    ·rename_i x t hx ht
     obtain rfl : args = #[x] := by apply Array.ext'; simpa using hx
     obtain rfl : argTypes = #[t] := by apply Array.ext'; simpa using ht
     refine fin_opt hR h fun z hz => ?_
     obtain ⟨u, h1, h2⟩ := lenV_ok (P := X.P) (ty := type) (E x) hz
     exact ⟨u, by simp [execOp, resolve, invoke, builtin, h1], .f _ _ h2⟩
    ·cases h
   | copy =>
    simp only [act] at h
    split at h
    ·rename_i x y t t' hx ht
     obtain rfl : args = #[x, y] := by apply Array.ext'; simpa using hx
     obtain rfl : argTypes = #[t, t'] := by apply Array.ext'; simpa using ht
     obtain ⟨v, w', h1, h2, h3, h4⟩ := cpA_ok hR (E x) (E y) t' type h
     have h5 := h4.put (.f _ _ h2) dst
     refine ⟨v, w', β, fz, .inl (by simp [execOp, resolve, invoke, builtin, h1]), ?_⟩
     cases dst with
     | none =>
      have : s.app none e = { s with H := putW s.H e.wr } := by simp only [St.app, h3.2.1, h3.2.2]; rfl
      rw [this]; exact h5
     | some d' =>
      have : s.app (some d') e = { s with env := upd s.env d' e.val, H := putW s.H e.wr } := by simp only [St.app, h3.1, h3.2.1, h3.2.2, newH, newF]; rfl
      rw [this]; exact h5
    ·cases h
   | min =>
    simp only [act] at h
    split at h
    ·rename_i x y hx
     obtain rfl : args = #[x, y] := by apply Array.ext'; simpa using hx
     split at h
     ·rename_i k p _ q hp hq
      have h1 := E x
      rw [hp] at h1
      have h1 := h1.int_inv
      have h2 := E y
      rw [hq] at h2
      have h2 := h2.int_inv
      exact fin_val hR (by simp [execOp, resolve, invoke, builtin, Builtin.min_, Builtin.min2, h1, h2]) (.f _ _ (.int _ _)) h
     ·cases h
    ·cases h
   | max =>
    simp only [act] at h
    split at h
    ·rename_i x y hx
     obtain rfl : args = #[x, y] := by apply Array.ext'; simpa using hx
     split at h
     ·rename_i k p _ q hp hq
      have h1 := E x
      rw [hp] at h1
      have h1 := h1.int_inv
      have h2 := E y
      rw [hq] at h2
      have h2 := h2.int_inv
      exact fin_val hR (by simp [execOp, resolve, invoke, builtin, Builtin.max_, Builtin.max2, h1, h2]) (.f _ _ (.int _ _)) h
     ·cases h
    ·cases h
   | _ => simp [act] at h
  | value f => simp [act] at h
  | invoke r m => simp [act] at h
 | _ => simp [act] at h
end
end Go.Proofs.YtpchdjdochkjpaaGreatDoor.Am
set_option linter.unusedVariables false
set_option linter.unusedSimpArgs false
namespace Go.Proofs.YtpchdjdochkjpaaGreatDoor.Am
open Go Go.RowKit
section
variable {X : Cx} {s : St} {fz : Nat → Prop} {β : Nat → Option Own} {a : Act} {w : World}
theorem killS_V {dm : Nat → Option Nat} {t : Nat} {x : AV} {v : Value} (h : V w fz β dm x v) : V w fz β (upd dm t none) (killS t x) v := by
 induction h with
 | f _ _ hf => cases hf <;> first | exact .dead _ | exact .f _ _ (by first | exact .nil | exact .int _ _ | exact .bool _ | exact .str _ | exact .sl0 _ _ | (constructor <;> assumption))
 | dead => exact .dead _
 | undef => exact .undef
 | own0 t' n hd hb =>
  simp only [killS]
  by_cases c : t' = t
  ·rw [if_pos c]; exact .dead _
  ·rw [if_neg c]; exact .own0 t' n (by rw [upd_apply, if_neg c]; exact hd) hb
 | own t' off len ao c' o n hd hb ha hl hc hn =>
  simp only [killS]
  by_cases c : t' = t
  ·rw [if_pos c]; exact .dead _
  ·rw [if_neg c]; exact .own t' off len ao c' o n (by rw [upd_apply, if_neg c]; exact hd) hb ha hl hc hn
 | optr t' i k o n hd hb hn =>
  simp only [killS]
  by_cases c : t' = t
  ·rw [if_pos c]; exact .dead _
  ·rw [if_neg c]; exact .optr t' i k o n (by rw [upd_apply, if_neg c]; exact hd) hb hn
 | lk x v h h1 h2 ih => exact .lk _ _ ih h1 h2
 | agg => exact .dead _
 | tup => exact .dead _
theorem killA_V {dm : Nat → Option Nat} {t : Nat} {x : AV} {v : Value} (h : V w fz β dm x v) : V w fz β (upd dm t none) (killA t x) v := by
 unfold killA
 split
 ·rename_i cs
  obtain ⟨vs, rfl, hl, hV⟩ := h.agg_inv
  refine .agg _ vs (by simp [hl]) (fun i x v h1 h2 => ?_)
  rw [List.getElem?_map] at h1
  cases hq : cs[i]? with
  | none => rw [hq] at h1; cases h1
  | some q => rw [hq] at h1; obtain rfl := Option.some.inj h1; exact killS_V (hV i q v hq h2)
 ·exact killS_V h
theorem killV_V {dm : Nat → Option Nat} {t : Nat} {x : AV} {v : Value} (h : V w fz β dm x v) : V w fz β (upd dm t none) (killV t x) v := by
 unfold killV
 split
 ·rename_i cs
  obtain ⟨vs, rfl, hl, hV⟩ := h.tup_inv
  refine .tup _ vs (by simp [hl]) (fun i x v h1 h2 => ?_)
  rw [List.getElem?_map] at h1
  cases hq : cs[i]? with
  | none => rw [hq] at h1; cases h1
  | some q => rw [hq] at h1; obtain rfl := Option.some.inj h1; exact killA_V (hV i q v hq h2)
 ·exact killA_V h
theorem Rel.kill (h : Rel X s fz β a w) (t : Nat) : Rel X { s with env := kl t s.env, H := upd s.H t none } fz β a w := by
 have hn : ∀ t', upd s.H t none t' ≠ none → s.H t' ≠ none ∧ t' ≠ t := fun t' h' => by
  rw [upd_apply] at h'
  by_cases c : t' = t
  ·rw [if_pos c] at h'; exact absurd rfl h'
  ·rw [if_neg c] at h'; exact ⟨h', c⟩
 refine ⟨h.bel, h.sz, h.df, fun i hi => ?_, fun t' r hr => ?_, fun t1 t2 o1 o2 h1 h2 => h.ij t1 t2 o1 o2 (hn t1 h1).1 (hn t2 h2).1, fun t1 o1 h1 => h.lo t1 o1 (hn t1 h1).1, fun t1 o1 h1 => h.fl t1 o1 (hn t1 h1).1, h.fs, h.f0, h.gl, h.bi, fun i hi => (h.vt i hi).imp fun v hv => (killV_V (t := t) hv).mono (fun _ _ => rfl) (fun _ z => z) (fun t' n hd => by
  simp only [upd_apply, St.dm] at hd ⊢
  by_cases c : t' = t
  ·rw [if_pos c] at hd; cases hd
  ·rw [if_neg c] at hd ⊢; exact hd) (fun _ _ _ => rfl), h.xo.same (fun t' h' => (hn t' h').1)⟩
 ·have := killV_V (t := t) (h.tm i hi)
  refine this.mono (fun _ _ => rfl) (fun _ z => z) (fun t' n hd => ?_) (fun _ _ _ => rfl)
  simp only [upd_apply, St.dm] at hd ⊢
  by_cases c : t' = t
  ·rw [if_pos c] at hd; cases hd
  ·rw [if_neg c] at hd ⊢; exact hd
 ·simp only [upd_apply] at hr
  by_cases c : t' = t
  ·rw [if_pos c] at hr; cases hr
  ·rw [if_neg c] at hr; exact h.rw t' r hr
theorem Rel.world2 (h : Rel X s fz β a w) {w' : World} {B : Nat} (hos : w'.os = w.os) (htp : w'.tape = w.tape) (hout : w'.output = w.output)
  (hsz : w.heap.size ≤ w'.heap.size) (hb : ∀ b, b < w.heap.size → b ≠ B → w'.heap[b]? = w.heap[b]?) (hB : X.w0.heap.size ≤ B) (hz : ¬ fz B) (hr : ∀ t o, s.H t ≠ none → β t = some o → o.blk ≠ B) (hx : ¬ s.x.bl w B) : Rel X s fz β a w' := by
 have hf : ∀ b, fz b → w'.heap[b]? = w.heap[b]? := fun b hb' => hb b (h.fs b hb').1 (fun e => hz (e ▸ hb'))
 refine ⟨⟨hos.trans h.bel.os, htp.trans h.bel.tape, hout.trans h.bel.output, Nat.le_trans h.bel.size hsz, fun k hk hn => (hb k (Nat.lt_of_lt_of_le hk h.bel.size) (by omega)).trans (h.bel.block k hk hn)⟩, h.sz, h.df,
  fun i hi => (h.tm i hi).mono hf (fun _ z => z) (fun _ _ z => z) (fun _ _ _ => rfl), fun t r ht => (h.rw t r ht).mono hf (fun _ z => z) rfl (fun o ho => hb _ ((h.rw t r ht).lt ho) (hr t o (by rw [ht]; simp) ho)), h.ij, h.lo, h.fl,
  fun b hb' => ⟨Nat.lt_of_lt_of_le (h.fs b hb').1 hsz, (h.fs b hb').2⟩, h.f0, fun g hg => (h.gl g hg).mono hf (fun _ z => z), h.bi, fun i hi => (h.vt i hi).imp fun v hv => hv.mono hf (fun _ z => z) (fun _ _ z => z) (fun _ _ _ => rfl),
  h.xo.mono (fun b hb' => hb'.elim (hf b) (fun z => hb b (h.xo.2 b z).1 (fun e => hx (e ▸ z)))) (fun _ z => z) (fun _ z => .inl z) hsz (fun t o ht ho => .inl ⟨ht, ho⟩)⟩
theorem row_of_owns {w' : World} {base g cap : Nat} {el sz : Nat} {z : AV} {n : Nat} {us : List Value} {ys : List AV} {t : Nat} {β' : Nat → Option Own} (hsz : 0 < sz) (hus : ∀ u ∈ us, u.cells.size = sz) (hl : us.length = n) (hyl : ys.length = n)
  (ho : w'.ownsRow base el sz (.slice (some ⟨g, 0, none⟩) n cap) n (us.flatMap fun u => u.cells.toList)) (hF : ∀ (i : Nat) (x : AV) (u : Value), ys[i]? = some x → us[i]? = some u → F w' fz x u) (hb : β' t = some ⟨g, cap, sz⟩) :
  RowOk w' fz β' t ⟨el, sz, z, ys⟩ := by
 obtain ⟨h1, h2⟩ := ho
 rcases h2 with ⟨h2, _⟩ | ⟨g', cap', cur, hv, hbase, hg, hnc, hcap, hcs, htake⟩
 ·cases h2
 ·simp only [Value.slice.injEq, Option.some.injEq, Addr.mk.injEq] at hv
  obtain ⟨⟨rfl, _, _⟩, _, rfl⟩ := hv
  unfold RowOk
  rw [hb]
  refine ⟨rfl, hsz, by simp only [hyl]; exact hnc, hcap, cur, us, hg, hcs, by simp [hl, hyl], hF, hus, fun i u j c h3 h4 => ?_⟩
  have hj : j < sz := by
   have := hus u (List.mem_of_getElem? h3)
   have := (Array.getElem?_eq_some_iff.1 h4).1
   omega
  have hi : i < n := by rw [← hl]; exact (List.getElem?_eq_some_iff.1 h3).1
  have hlt : i * sz + j < n * sz := by
   have : (i + 1) * sz ≤ n * sz := Nat.mul_le_mul_right _ hi
   rw [Nat.add_mul] at this
   omega
  have hg' := Great.flat_get hsz us hus (i * sz + j)
  rw [← htake, List.getElem?_take, if_pos hlt, Array.getElem?_toList, Nat.mul_comm i sz, Nat.mul_add_div hsz, Nat.div_eq_of_lt hj, Nat.add_zero, h3, Nat.mul_add_mod, Nat.mod_eq_of_lt hj] at hg'
  simp only [Nat.mul_comm i sz]
  rw [hg']
  exact h4
theorem append_run (hR : Rel X s fz β a w) {v : Value} {n : Nat} {xs : List Value} {base : Nat} {t el : TypeId} {ty : TypeId} {inf : TypeInfo} {zz : Value} (hu : X.P.underlying t = some (.slice el)) (hinf : X.P.info? el = some inf) (hzz : inf.zero = some zz) (hzs : zz.cells.size = inf.size) (hsz : 0 < inf.size)
  (hown : w.ownsRow base el inf.size v n xs) {vy : Value} {us : List Value} {m : Nat} (hul : us.length = m) (huz : ∀ u ∈ us, u.cells.size = inf.size) (h1 : ∀ u ∈ us, ∀ c ∈ u.cells, c.oneCell' = true)
  (hy : (vy = .slice none 0 0 ∧ us = []) ∨ ∃ (ad : Addr) (cap : Nat), vy = .slice (some ad) m cap ∧ (us = [] ∨ ad.spot = none) ∧ ∀ (i : Nat) (u : Value) (j : Nat) (c : Value), us[i]? = some u → u.cells[j]? = some c → w.cell? ⟨ad.block, ad.off + (i * inf.size + j), none⟩ = some c)
  (h63 : n + m ≤ maxLen) (hbytes : (n + m) * inf.bytes ≤ 140737488355328) (hbase : base ≤ w.heap.size) :
  ∃ v' w', (Builtin.append_ #[t, t] ty #[v, vy]).run X.P w = .ok v' w' ∧ w'.ownsRow base el inf.size v' (n + m) (xs ++ us.flatMap fun u => u.cells.toList) ∧ w.grownBy w' v.ownBlock ∧
   (v' = .slice none 0 0 ↔ v = .slice none 0 0 ∧ m = 0) ∧ (v'.ownBlock = v.ownBlock ∨ v'.ownBlock = some w.heap.size) := by
 rcases hy with ⟨rfl, rfl⟩ | ⟨ad, cap, rfl, hsp, hc⟩
 ·simp at hul
  subst hul
  have hr := run_append_owned_none (P := X.P) w base t ty el inf inf.size hu hinf v n xs hown
  refine ⟨v, w, hr, by simpa using hown, ⟨rfl, rfl, rfl, Nat.le_refl _, fun _ _ _ => rfl⟩, by simp, .inl rfl⟩
 ·have hfl := fun k => Great.flat_get hsz us huz k
  have hlen : (us.flatMap fun u => u.cells.toList).length = m * inf.size := by
   rw [List.length_flatMap]
   have : us.map (fun u => u.cells.toList.length) = List.replicate m inf.size := by
    apply List.eq_replicate_iff.2
    refine ⟨by simp [hul], fun b hb => ?_⟩
    obtain ⟨u, hu, rfl⟩ := List.mem_map.1 hb
    simpa using huz u hu
   rw [this]; simp
  refine run_append_own_at (P := X.P) w base t ty el inf zz inf.size inf.bytes hu hinf hzz rfl rfl hzs hsz v n xs hown ad m cap _ hlen (fun j c hj => ?_) (fun c hc' => ?_) h63 hbytes hbase
  ·rw [hfl] at hj
   cases hq : us[j / inf.size]? with
   | none => rw [hq] at hj; cases hj
   | some u =>
    rw [hq] at hj
    rw [addr_eta (hsp.resolve_left (by rintro rfl; simp at hq)), addr_add]
    have := hc _ u (j % inf.size) c hq (by simpa using hj)
    rw [Nat.mul_comm, Nat.div_add_mod] at this
    exact this
  ·obtain ⟨u, hu, hc'⟩ := List.mem_flatMap.1 hc'
   exact h1 u hu c (by simpa using hc')
theorem ownsRow_form {w : World} {base : Nat} {e : TypeId} {size : Nat} {v : Value} {n : Nat} {xs : List Value} (h : w.ownsRow base e size v n xs) : (v = .slice none 0 0 ∧ n = 0) ∨ ∃ g cap, v = .slice (some ⟨g, 0, none⟩) n cap ∧ base ≤ g ∧ g < w.heap.size := by
 rcases h.2 with h | ⟨g, cap, cur, hv, hb, hg, _⟩
 ·exact .inl h
 ·exact .inr ⟨g, cap, hv, hb, (Array.getElem?_eq_some_iff.1 hg).1⟩
theorem apA_ok (hR : Rel X s fz β a w) {x y : AV} {vx vy : Value} (hx : V w fz β s.dm x vx) (hy : V w fz β s.dm y vy) {d : Nat} {t ty : TypeId} {s' : St} (h : apA X.P s d t x y = some s') :
  ∃ v w' β', (Builtin.append_ #[t, t] ty #[vx, vy]).run X.P w = .ok v w' ∧ Rel X s' fz β' (a.put (some d) v) w' := by
 unfold apA at h
 split at h
 rotate_left
 ·cases h
 rename_i el sz bt z hE
 obtain ⟨inf, zz, hu, hinf, hzz, hsi, hbi, hcz⟩ := elS_some hE
 subst hsi hbi
 split at h
 rotate_left
 ·cases h
 rename_i ys hys
 obtain ⟨us, hul, huF, huz, hcase⟩ : ∃ us : List Value, us.length = ys.length ∧ (∀ (i : Nat) (x : AV) (u : Value), ys[i]? = some x → us[i]? = some u → F w fz x u) ∧ (∀ u ∈ us, u.cells.size = inf.size) ∧
   ((vy = .slice none 0 0 ∧ us = []) ∨ ∃ (ad : Addr) (cap : Nat), vy = .slice (some ad) ys.length cap ∧ (us = [] ∨ ad.spot = none) ∧ ∀ (i : Nat) (u : Value) (j : Nat) (c : Value), us[i]? = some u → u.cells[j]? = some c → w.cell? ⟨ad.block, ad.off + (i * inf.size + j), none⟩ = some c) := by
  unfold srcN at hys
  split at hys
  ·rename_i s' z' ys' hd
   obtain ⟨h1, h2⟩ := need_some hys
   obtain rfl := Option.some.inj h2
   have h1 := of_decide_eq_true h1
   subst h1
   obtain ⟨us, g1, g2, g3, g4⟩ := deepS_sl hR hy hd
   exact ⟨us, g1, g2, g3, g4.imp (fun ⟨h1, h2⟩ => ⟨h1, by subst h2; exact List.length_eq_zero_iff.1 g1⟩) id⟩
  ·rename_i hd
   obtain rfl := Option.some.inj hys
   exact ⟨[], rfl, fun i x u h => by simp at h, by simp, .inl ⟨deepS_nil hy hd, rfl⟩⟩
  ·cases hys
 have hus1 : ∀ u ∈ us, ∀ c ∈ u.cells, c.oneCell' = true := fun u hu c hc => by
  obtain ⟨i, hi, rfl⟩ := List.getElem_of_mem hu
  have hiy : i < ys.length := by omega
  exact (huF i ys[i] us[i] (by simp [hiy]) (by simp [hi])).cells_one c hc
 -- behind the append: the rows that are left, and the new one
 have fin : ∀ (s1 : St) (hR1 : Rel X s1 fz β a w) (hn : s1.H (tg d 0) = none) (n : Nat) (xs' : List AV) (us' : List Value) (hxl : xs'.length = n) (hul' : us'.length = n) (huz' : ∀ u ∈ us', u.cells.size = inf.size) (hF' : ∀ (i : Nat) (x : AV) (u : Value), xs'[i]? = some x → us'[i]? = some u → F w fz x u)
   (hown : w.ownsRow X.w0.heap.size el inf.size vx n (us'.flatMap fun u => u.cells.toList)) (hzs : zz.cells.size = inf.size) (hsz : 0 < inf.size) (h63 : n + ys.length ≤ maxLen) (hbytes : (n + ys.length) * inf.bytes ≤ 140737488355328)
   (hblk : ∀ g, vx.ownBlock = some g → ¬ fz g ∧ (∀ t o, s1.H t ≠ none → β t = some o → o.blk ≠ g) ∧ ¬ s1.x.bl w g),
   ∃ v w' β', (Builtin.append_ #[t, t] ty #[vx, vy]).run X.P w = .ok v w' ∧ Rel X { s1 with env := upd s1.env d (.own (tg d 0) 0 (n + ys.length)), H := upd s1.H (tg d 0) (some ⟨el, inf.size, z, xs' ++ ys⟩), fr := upd s1.fr (tg d 0) false } fz β' (a.put (some d) v) w' := by
  intro s1 hR1 hn n xs' us' hxl hul' huz' hF' hown hzs hsz h63 hbytes hblk
  obtain ⟨v', w', hr, h2, h3, h4, h5⟩ := append_run (ty := ty) hR hu hinf hzz hzs hsz hown (m := ys.length) hul huz hus1 hcase h63 hbytes hR.bel.size
  have hus2 : ∀ u ∈ us' ++ us, u.cells.size = inf.size := fun u hu => (List.mem_append.1 hu).elim (huz' u) (huz u)
  have hlt : ∀ t' o', s1.H t' ≠ none → β t' = some o' → o'.blk < w.heap.size := fun t' o' ht' hb => by
   cases hq : s1.H t' with
   | none => exact absurd hq ht'
   | some r' => exact (hR1.rw t' r' hq).lt hb
  have hFz : ∀ b, fz b → w'.heap[b]? = w.heap[b]? := fun b hb => h3.block b (hR.fs b hb).1 (fun e => (hblk b e.symm).1 hb)
  have hF2 : ∀ (i : Nat) (x : AV) (u : Value), (xs' ++ ys)[i]? = some x → (us' ++ us)[i]? = some u → F w' fz x u := fun i x u a b => by
   rw [List.getElem?_append] at a b
   rw [hxl] at a
   rw [hul'] at b
   split at a
   ·rename_i c
    rw [if_pos c] at b
    exact (hF' i x u a b).mono hFz (fun _ z => z)
   ·rename_i c
    rw [if_neg c] at b
    exact (huF _ x u a b).mono hFz (fun _ z => z)
  -- the world, the new row aside
  have hR2 : Rel X s1 fz β a w' := by
   cases hq : vx.ownBlock with
   | none => exact hR1.world h3.os h3.tape h3.output h3.size (fun b hb => h3.block b hb (by rw [hq]; simp))
   | some g =>
    have hg := hown.lt g hq
    exact hR1.world2 (B := g) h3.os h3.tape h3.output h3.size (fun b hb hne => h3.block b hb (by rw [hq]; intro e; exact hne (Option.some.inj e))) hg.1 (hblk g hq).1 (hblk g hq).2.1 (hblk g hq).2.2
  rcases ownsRow_form h2 with ⟨hv', h0⟩ | ⟨g, cap, hv', hbase, hg⟩
  ·have hn0 : n = 0 := by omega
   have hy0 : ys = [] := List.length_eq_zero_iff.1 (by omega)
   have hx0 : xs' = [] := List.length_eq_zero_iff.1 (by omega)
   subst hy0 hx0 hn0
   have hrow : RowOk w' fz (upd β (tg d 0) none) (tg d 0) ⟨el, inf.size, z, [] ++ []⟩ := by unfold RowOk; simp [upd_apply]
   have h6 := hR2.newRow (t := tg d 0) hn (by unfold tg; omega) (bo := none) (fun o ho => by cases ho) hrow
   refine ⟨v', w', upd β (tg d 0) none, hr, ?_⟩
   have h7 := h6.put (x := .own (tg d 0) 0 0) (v := v') (by rw [hv']; exact .own0 _ 0 (by simp [St.dm, upd_apply]) (by simp [upd_apply])) (some d)
   exact h7
  ·subst hv'
   have hgb : ¬ fz g ∧ X.w0.heap.size ≤ g ∧ (∀ t' o', s1.H t' ≠ none → β t' = some o' → o'.blk ≠ g) ∧ ¬ s1.x.bl w' g := by
    have hbk : s1.x.bl w' g → s1.x.bl w g := (s1.x.mono hR1.xo.1 (fun b hb => hb.elim (hFz b) (fun z => h3.block b (hR1.xo.2 b z).1 (fun e => (hblk b e.symm).2.2 z))) (fun _ z => z)).2 g
    rcases h5 with h5 | h5
    ·have h5' : vx.ownBlock = some g := h5.symm
     exact ⟨(hblk g h5').1, hbase, (hblk g h5').2.1, fun z => (hblk g h5').2.2 (hbk z)⟩
    ·have h5' : g = w.heap.size := by simpa [Value.ownBlock] using h5
     refine ⟨fun hz => ?_, hbase, fun t' o' ht' hb => ?_, fun hz => ?_⟩
     ·have := (hR.fs g hz).1; omega
     ·have := hlt t' o' ht' hb; omega
     ·have := (hR1.xo.2 g (hbk hz)).1; omega
   have hrow : RowOk w' fz (upd β (tg d 0) (some ⟨g, cap, inf.size⟩)) (tg d 0) ⟨el, inf.size, z, xs' ++ ys⟩ := by
    refine row_of_owns (g := g) (cap := cap) (base := X.w0.heap.size) (us := us' ++ us) hsz hus2 (n := n + ys.length) (by simp [hul', hul]) (by simp [hxl]) ?_ hF2 (by simp [upd_apply])
    rw [List.flatMap_append]
    exact h2
   have h6 := hR2.newRow (t := tg d 0) hn (by unfold tg; omega) (bo := some ⟨g, cap, inf.size⟩) (fun o ho => by obtain rfl := Option.some.inj ho; exact hgb) hrow
   refine ⟨_, w', upd β (tg d 0) (some ⟨g, cap, inf.size⟩), hr, ?_⟩
   have hcapn : n + ys.length ≤ cap := by
    have := hrow
    unfold RowOk at this
    simp only [upd_apply, if_true] at this
    have := this.2.2.1
    simp [hxl] at this
    exact this
   have h7 := h6.put (x := .own (tg d 0) 0 (n + ys.length)) (v := .slice (some ⟨g, 0, none⟩) (n + ys.length) cap)
    (.own _ 0 _ 0 cap (⟨g, cap, inf.size⟩ : Own) (n + ys.length) (by simp [St.dm, upd_apply, hxl]) (by simp [upd_apply]) (.inl (by simp)) hcapn (by simp) (by omega)) (some d)
   exact h7
 have hzsz : sizedAs inf.size z = true → zz.cells.size = inf.size := fun h => (cav_F (w := w) (fz := fz) (v := zz) (by rw [hcz]; exact h)).2
 have hmax : (9223372036854775807 : Nat) ≤ maxLen := by decide
 split at h
 ·obtain ⟨hc, h⟩ := need_some h
  obtain ⟨h1, h⟩ := need_some h
  obtain ⟨h2, h⟩ := need_some h
  obtain rfl := Option.some.inj h
  simp only [Bool.and_eq_true, decide_eq_true_eq] at hc
  obtain ⟨⟨hn, hsz⟩, hzz'⟩ := hc
  obtain rfl := hx.nil_inv
  have := fin s hR (by simpa using hn) 0 [] [] rfl rfl (by simp) (fun i x u h => by simp at h) (World.ownsRow_nil w _ _ _) (hzsz hzz') hsz (by have := of_decide_eq_true h1; omega) (by have := of_decide_eq_true h2; simpa using this) (fun g hg => by simp [Value.ownBlock] at hg)
  simpa using this
 ·rename_i t' off n
  split at h
  rotate_left
  ·cases h
  rename_i r hr
  obtain ⟨hc, h⟩ := need_some h
  obtain ⟨h1, h⟩ := need_some h
  obtain ⟨h2, h⟩ := need_some h
  obtain rfl := Option.some.inj h
  simp only [Bool.and_eq_true, Bool.not_eq_true', decide_eq_true_eq] at hc
  obtain ⟨⟨⟨⟨⟨⟨⟨⟨hn, hsz⟩, hzz'⟩, hoff⟩, hrs⟩, hre⟩, hfr⟩, ht16⟩, htne⟩ := hc
  subst hoff
  have h1 := of_decide_eq_true h1
  have h2 := of_decide_eq_true h2
  have hne : s.H t' ≠ none := by rw [hr]; simp
  have hR1 := hR.kill t'
  have hn1 : upd s.H t' none (tg d 0) = none := by rw [upd_apply, if_neg (Ne.symm htne)]; simpa using hn
  cases hx with
  | f _ _ hf => cases hf
  | own0 _ m hd hb =>
   have hrx : r.xs = [] := by
    have := hR.rw t' r hr
    unfold RowOk at this
    rw [hb] at this
    exact this
   have := fin _ hR1 hn1 0 [] [] rfl rfl (by simp) (fun i x u h => by simp at h) (World.ownsRow_nil w _ _ _) (hzsz hzz') hsz (by omega) h2 (fun g hg => by simp [Value.ownBlock] at hg)
   simpa [hrx] using this
  | own _ _ _ ao c o m hd hb ha hl hcc hnm =>
   have hRow := hR.rw t' r hr
   unfold RowOk at hRow
   rw [hb] at hRow
   obtain ⟨e1, e2, e3, e4, cur, vs, e5, e6, e7, e8, e9, e10⟩ := hRow
   have hm : m = r.xs.length := by simp [St.dm, hr] at hd; exact hd.symm
   subst hm
   have hao : ao = 0 := by omega
   subst hao
   have hvn : n ≤ vs.length := by omega
   have hlo := (hR.lo t' o hne hb).1 ht16
   have hownr : w.ownsRow X.w0.heap.size el inf.size (.slice (some ⟨o.blk, 0, none⟩) n c) n ((vs.take n).flatMap fun u => u.cells.toList) := by
    refine ⟨?_, .inr ⟨o.blk, c, cur, rfl, hlo, by rw [← hre]; exact e5, hl, by omega, ?_, ?_⟩⟩
    ·rw [List.length_flatMap]
     have : (vs.take n).map (fun u => u.cells.toList.length) = List.replicate n inf.size := by
      apply List.eq_replicate_iff.2
      refine ⟨by simp; omega, fun b hb => ?_⟩
      obtain ⟨u, hu, rfl⟩ := List.mem_map.1 hb
      have := e9 u (List.mem_of_mem_take hu)
      rw [hrs] at this
      simpa using this
     rw [this]; simp
    ·rw [e6, hrs]; congr 1; omega
    ·apply List.ext_getElem?
     intro p
     have hz' : ∀ u ∈ vs.take n, u.cells.size = inf.size := fun u hu => by rw [← hrs]; exact e9 u (List.mem_of_mem_take hu)
     rw [Great.flat_get hsz _ hz', List.getElem?_take]
     by_cases hp : p < n * inf.size
     ·rw [if_pos hp]
      have hdiv : p / inf.size < n := (Nat.div_lt_iff_lt_mul hsz).2 hp
      rw [List.getElem?_take, if_pos hdiv]
      have hiv : p / inf.size < vs.length := by omega
      rw [List.getElem?_eq_getElem hiv]
      simp only [Option.bind_some]
      have hszu := e9 vs[p / inf.size] (List.getElem_mem hiv)
      have hmod : p % inf.size < vs[p / inf.size].cells.size := by rw [hszu, hrs]; exact Nat.mod_lt _ hsz
      have := e10 (p / inf.size) vs[p / inf.size] (p % inf.size) _ (List.getElem?_eq_getElem hiv) (Array.getElem?_eq_getElem hmod)
      rw [hrs, Nat.mul_comm, Nat.div_add_mod] at this
      rw [Array.getElem?_toList, this, Array.getElem?_eq_getElem hmod]
     ·rw [if_neg hp, List.getElem?_take, if_neg (fun hh => hp ((Nat.div_lt_iff_lt_mul hsz).1 hh))]
      rfl
   refine fin _ hR1 hn1 n (r.xs.take n) (vs.take n) (by simp; omega) (by simp; omega) (fun u hu => by rw [← hrs]; exact e9 u (List.mem_of_mem_take hu)) (fun i x u a b => ?_) hownr (hzsz hzz') hsz (by omega) h2 (fun g hg => ?_)
   ·rw [List.getElem?_take] at a b
    split at a
    ·rename_i hi
     rw [if_pos hi] at b
     exact e8 i x u a b
    ·cases a
   ·have hg' : o.blk = g := by simpa [Value.ownBlock] using hg
    subst hg'
    refine ⟨(hR.fl t' o hne hb).1 hfr, fun t2 o2 h3 h4 h5 => ?_, fun hz => (hR.xo.2 _ hz).2.2.2 t' o hne hb rfl⟩
    simp only [upd_apply] at h3
    by_cases c2 : t2 = t'
    ·rw [if_pos c2] at h3; exact h3 rfl
    ·rw [if_neg c2] at h3
     exact c2 (hR.ij t2 t' o2 o h3 hne h4 hb h5)
 ·cases h
end
def isTb (P : Program) (t : TypeId) : Bool := match P.underlying t with
 | some (.pointer e) => match P.underlying e with
  | some (.struct fs) => fs.any fun f => match P.underlying f.type with
   | some (.map _ _) => true
   | some (.pointer g) => match P.underlying g with
    | some (.struct gs) => gs.any fun h => match P.underlying h.type with | some (.map _ _) => true | _ => false
    | _ => false
   | _ => false
  | _ => false
 | _ => false
def isX (P : Program) (f : Nat) : Bool := match P.funcs[f]? with | some fn => fn.params.any (isTb P) | none => false
def callable (P : Program) (f : Nat) : Bool :=
 match P.funcs[f]? with
 | some fn => fn.body.isSome && !(fn.name == "runtime.NumGoroutine")
 | none => false
def Inj (n : Nat) (β : Nat → Option Own) : Prop := ∀ t t' o o', t < n → t' < n → β t = some o → β t' = some o' → o.blk = o'.blk → t = t'
def lens (l : List Row) : Nat → Option Nat := fun t => (l[t]?).map (·.xs.length)
def Holds (P : Program) (G : Nat → AV) (f : Nat) (ins : List Row) (args : List AV) (res : AV) (outs : List Row) : Prop :=
 callable P f = true ∧ ∀ (w : World) (fz : Nat → Prop) (β : Nat → Option Own) (vs : List Value),
  Gl G w fz → (∀ b, fz b → b < w.heap.size) → (∀ t r, ins[t]? = some r → RowOk w fz β t r) → Inj ins.length β → (∀ t o, t < ins.length → β t = some o → ¬ fz o.blk) →
  Pw w fz β (lens ins) args vs →
  Calls P f vs.toArray w (fun e w' => ∃ v β' fz', e = .returned v ∧ Bel (fun b => ∃ t o, t < ins.length ∧ β t = some o ∧ b = o.blk) w w' ∧
   (∀ b, fz b → fz' b) ∧ (∀ b, fz' b → b < w'.heap.size ∧ (b < w.heap.size → fz b)) ∧ ins.length ≤ outs.length ∧ (∀ t, t < ins.length → β' t = β t ∧ lens outs t = lens ins t) ∧
   V w' fz' β' (lens outs) res v ∧ (∀ t r, outs[t]? = some r → RowOk w' fz' β' t r) ∧ Inj outs.length β' ∧
   (∀ t o, t < outs.length → β' t = some o → ¬ fz' o.blk ∧ (ins.length ≤ t → w.heap.size ≤ o.blk)))
def HoldsX (P : Program) (G : Nat → AV) (f : Nat) (ins : List Row) (args gh : List AV) (x : Rs) (res : AV) (outs : List Row) (xq : Rs → Prop) : Prop :=
 callable P f = true ∧ ∀ (w : World) (fz : Nat → Prop) (β : Nat → Option Own) (vs : List Value),
  Gl G w fz → (∀ b, fz b → b < w.heap.size) → (∀ t r, ins[t]? = some r → RowOk w fz β t r) → Inj ins.length β → (∀ t o, t < ins.length → β t = some o → ¬ fz o.blk) →
  Pw w fz β (lens ins) args vs → (∀ y ∈ gh, ∃ v, V w fz β (lens ins) y v) →
  (x.ok w fz ∧ ∀ b, x.bl w b → b < w.heap.size ∧ ¬ fz b ∧ ∀ t o, t < ins.length → β t = some o → o.blk ≠ b) →
  Calls P f vs.toArray w (fun e w' => ∃ v β' fz', e = .returned v ∧ Bel (fun b => (∃ t o, t < ins.length ∧ β t = some o ∧ b = o.blk) ∨ x.bl w b) w w' ∧
   (∀ b, fz b → fz' b) ∧ (∀ b, fz' b → b < w'.heap.size ∧ (b < w.heap.size → fz b)) ∧ ins.length ≤ outs.length ∧ (∀ t, t < ins.length → β' t = β t ∧ lens outs t = lens ins t) ∧
   V w' fz' β' (lens outs) res v ∧ (∀ t r, outs[t]? = some r → RowOk w' fz' β' t r) ∧ Inj outs.length β' ∧
   (∀ t o, t < outs.length → β' t = some o → ¬ fz' o.blk ∧ (ins.length ≤ t → w.heap.size ≤ o.blk)) ∧
   ∃ x', xq x' ∧ x'.ok w' fz' ∧ ∀ b, x'.bl w' b → b < w'.heap.size ∧ ¬ fz' b ∧ (x.bl w b ∨ w.heap.size ≤ b) ∧ ∀ t o, t < outs.length → β' t = some o → o.blk ≠ b)
def HoldsG (P : Program) (G : Nat → AV) (f : Nat) (ins : List Row) (args gh : List AV) (res : AV) (outs : List Row) : Prop := HoldsX P G f ins args gh Rs.no res outs (fun _ => True)
theorem Bel.wr {wr wr' : Nat → Prop} {w w' : World} (h : Bel wr w w') (hw : ∀ b, wr b → wr' b) : Bel wr' w w' := ⟨h.os, h.tape, h.output, h.size, fun k hk hn => h.block k hk (fun c => hn (hw k c))⟩
theorem Holds.toG {P : Program} {G : Nat → AV} {f : Nat} {ins : List Row} {args : List AV} {res : AV} {outs : List Row} (h : Holds P G f ins args res outs) : HoldsG P G f ins args [] res outs :=
 ⟨h.1, fun w fz β vs h1 h2 h3 h4 h5 h6 _ _ => (h.2 w fz β vs h1 h2 h3 h4 h5 h6).mono (by
  rintro e w' ⟨v, β', fz', h1, h2, h3, h4, h5, h6, h7, h8, h9, h10⟩
  exact ⟨v, β', fz', h1, h2.wr (fun b hb => .inl hb), h3, h4, h5, h6, h7, h8, h9, h10, Rs.no, trivial, trivial, fun b hb => hb.elim⟩)⟩
theorem HoldsG.plain {P : Program} {G : Nat → AV} {f : Nat} {ins : List Row} {args : List AV} {res : AV} {outs : List Row} (h : HoldsG P G f ins args [] res outs) : Holds P G f ins args res outs :=
 ⟨h.1, fun w fz β vs h1 h2 h3 h4 h5 h6 => (h.2 w fz β vs h1 h2 h3 h4 h5 h6 (fun y hy => by simp at hy) ⟨trivial, fun b hb => hb.elim⟩).mono (by
  rintro e w' ⟨v, β', fz', h1, h2, h3, h4, h5, h6, h7, h8, h9, h10, _⟩
  exact ⟨v, β', fz', h1, h2.wr (fun b hb => hb.elim id (fun z => z.elim)), h3, h4, h5, h6, h7, h8, h9, h10⟩)⟩
def closed : AV → Bool
 | .int _ _ | .bool _ | .str _ | .nil | .own _ _ _ | .optr _ _ _ | .dead | .undef | .raw _ | .fn _ | .nmap => true
 | .lk x _ => closed x
 | _ => false
def closedL : List AV → Bool
 | [] => true
 | x :: xs => closed x && closedL xs
def closedA : AV → Bool
 | .agg cs => closedL cs
 | x => closed x
def closedAL : List AV → Bool
 | [] => true
 | x :: xs => closedA x && closedAL xs
def closedR : AV → Bool
 | .tup cs => closedAL cs
 | x => closedA x
def ClosedRow (r : Row) : Prop := ∀ x ∈ r.xs, closedA x = true
def convT (τ : List Nat) : AV → Option AV
 | .own t off n => bif τ.contains t then some (.own (τ.idxOf t) off n) else none
 | .optr t i o => bif τ.contains t then some (.optr (τ.idxOf t) i o) else none
 | _ => none
def conv (τ : List Nat) (H : Nat → Option Row) (x : AV) : Option AV :=
 match x with
 | .own t off n => bif τ.contains t then some (.own (τ.idxOf t) off n) else deep H x
 | .optr t i o => bif τ.contains t then some (.optr (τ.idxOf t) i o) else none
 | .lk x v => match convT τ x with | some y => some (.lk y v) | none => some (.raw v)
 | x => deep H x
def convL (τ : List Nat) (H : Nat → Option Row) : List AV → Option (List AV)
 | [] => some []
 | x :: xs => match conv τ H x, convL τ H xs with | some y, some ys => some (y :: ys) | _, _ => none
def renT (τ : List Nat) (d j : Nat) : Nat := bif decide (j < τ.length) then τ.getD j 0 else tg d (j - τ.length)
def renS (τ : List Nat) (d : Nat) : AV → AV
 | .own t off n => .own (renT τ d t) off n
 | .optr t i o => .optr (renT τ d t) i o
 | .lk x v => .lk (renS τ d x) v
 | .agg _ => .dead
 | .tup _ => .dead
 | x => x
def renA (τ : List Nat) (d : Nat) : AV → AV
 | .agg cs => .agg (cs.map (renS τ d))
 | x => renS τ d x
def renV (τ : List Nat) (d : Nat) : AV → AV
 | .tup cs => .tup (cs.map (renA τ d))
 | x => renA τ d x
end Go.Proofs.YtpchdjdochkjpaaGreatDoor.Am
set_option linter.unusedVariables false
set_option linter.unusedSimpArgs false
namespace Go.Proofs.YtpchdjdochkjpaaGreatDoor.Am
open Go Go.RowKit
theorem newH_get (l : List Row) : ∀ (H : Nat → Option Row) (b t : Nat), newH H b l t = if b ≤ t ∧ t < b + l.length then l[t - b]? else H t := by
 induction l with
 | nil => intro H b t; simp [newH]; omega
 | cons r l ih =>
  intro H b t
  simp only [newH, ih, upd_apply, List.length_cons]
  by_cases c1 : t = b
  ·subst c1
   rw [if_neg (by omega), if_pos rfl, if_pos (by omega)]
   simp
  ·by_cases c2 : b + 1 ≤ t ∧ t < b + 1 + l.length
   ·rw [if_pos c2, if_pos (by omega)]
    obtain ⟨k, hk⟩ : ∃ k, t - b = k + 1 := ⟨t - b - 1, by omega⟩
    rw [hk, List.getElem?_cons_succ]
    congr 1
    omega
   ·rw [if_neg c2, if_neg c1, if_neg (by omega)]
theorem newF_get (l : List Row) : ∀ (f : Nat → Bool) (b t : Nat), newF f b l t = if b ≤ t ∧ t < b + l.length then false else f t := by
 induction l with
 | nil => intro f b t; simp [newF]; omega
 | cons r l ih =>
  intro f b t
  simp only [newF, ih, upd_apply, List.length_cons]
  by_cases c1 : t = b
  ·subst c1
   rw [if_neg (by omega), if_pos rfl, if_pos (by omega)]
  ·by_cases c2 : b + 1 ≤ t ∧ t < b + 1 + l.length
   ·rw [if_pos c2, if_pos (by omega)]
   ·rw [if_neg c2, if_neg c1, if_neg (by omega)]
section
variable {X : Cx} {s : St} {fz : Nat → Prop} {β : Nat → Option Own} {a : Act} {w : World}
theorem Rel.newRows (h : Rel X s fz β a w) {b : Nat} {l : List Row} (hb : 16 ≤ b) (hn : ∀ j, j < l.length → s.H (b + j) = none) {bo : Nat → Option Own}
  (h1 : ∀ j o, j < l.length → bo j = some o → ¬ fz o.blk ∧ X.w0.heap.size ≤ o.blk ∧ (∀ t' o', s.H t' ≠ none → β t' = some o' → o'.blk ≠ o.blk) ∧ ¬ s.x.bl w o.blk)
  (hij : ∀ j j' o o', j < l.length → j' < l.length → bo j = some o → bo j' = some o' → o.blk = o'.blk → j = j')
  (h2 : ∀ j r, l[j]? = some r → RowOk w fz (fun t => bo (t - b)) (b + j) r) :
  Rel X { s with H := newH s.H b l, fr := newF s.fr b l } fz (fun t => if b ≤ t ∧ t < b + l.length then bo (t - b) else β t) a w := by
 have hold : ∀ t, s.H t ≠ none → ¬ (b ≤ t ∧ t < b + l.length) := fun t ht c => ht (by
  have := hn (t - b) (by omega)
  rw [show b + (t - b) = t by omega] at this
  exact this)
 have hH : ∀ t, s.H t ≠ none → newH s.H b l t = s.H t := fun t ht => by rw [newH_get, if_neg (hold t ht)]
 refine ⟨h.bel, h.sz, h.df, ?_, ?_, ?_, ?_, ?_, h.fs, h.f0, h.gl, fun t h' => (by rw [if_neg (by omega)]; exact h.bi t h'), fun i hi => (h.vt i hi).imp fun v hv => hv.mono (fun _ _ => rfl) (fun _ z => z) (fun t n hd => by
  have ht : s.H t ≠ none := fun e => by simp [St.dm, e] at hd
  simp only [St.dm] at hd ⊢
  rw [hH t ht]; exact hd) (fun t n hd => by
  have ht : s.H t ≠ none := fun e => by simp [St.dm, e] at hd
  rw [if_neg (hold t ht)]), h.xo.mono (fun _ _ => rfl) (fun _ z => z) (fun _ z => .inl z) (Nat.le_refl _) (fun t o ht ho => by
  simp only [newH_get] at ht
  by_cases c : b ≤ t ∧ t < b + l.length
  ·simp only [if_pos c] at ho; exact .inr (h1 _ o (by omega) ho).2.2.2
  ·simp only [if_neg c] at ht ho; exact .inl ⟨ht, ho⟩)⟩
 ·intro i hi
  refine (h.tm i hi).mono (fun _ _ => rfl) (fun _ z => z) (fun t n hd => ?_) (fun t n hd => ?_)
  ·have ht : s.H t ≠ none := fun e => by simp [St.dm, e] at hd
   simp only [St.dm] at hd ⊢
   rw [hH t ht]; exact hd
  ·have ht : s.H t ≠ none := fun e => by simp [St.dm, e] at hd
   rw [if_neg (hold t ht)]
 ·intro t r hr
  simp only [newH_get] at hr
  by_cases c : b ≤ t ∧ t < b + l.length
  ·rw [if_pos c] at hr
   have := h2 (t - b) r hr
   rw [show b + (t - b) = t by omega] at this
   exact this.mono (fun _ _ => rfl) (fun _ z => z) (by simp only [if_pos c]) (fun _ _ => rfl)
  ·rw [if_neg c] at hr
   exact (h.rw t r hr).mono (fun _ _ => rfl) (fun _ z => z) (by simp only [if_neg c]) (fun _ _ => rfl)
 ·intro t1 t2 o1 o2 g1 g2 b1 b2 e
  simp only [newH_get] at g1 g2
  by_cases c1 : b ≤ t1 ∧ t1 < b + l.length <;> by_cases c2 : b ≤ t2 ∧ t2 < b + l.length
  ·simp only [if_pos c1] at b1
   simp only [if_pos c2] at b2
   have := hij _ _ o1 o2 (by omega) (by omega) b1 b2 e
   omega
  ·simp only [if_pos c1] at b1
   simp only [if_neg c2] at g2 b2
   exact absurd e.symm ((h1 _ o1 (by omega) b1).2.2.1 t2 o2 g2 b2)
  ·simp only [if_neg c1] at g1 b1
   simp only [if_pos c2] at b2
   exact absurd e ((h1 _ o2 (by omega) b2).2.2.1 t1 o1 g1 b1)
  ·simp only [if_neg c1] at g1 b1
   simp only [if_neg c2] at g2 b2
   exact h.ij t1 t2 o1 o2 g1 g2 b1 b2 e
 ·intro t o g b'
  simp only [newH_get] at g
  by_cases c : b ≤ t ∧ t < b + l.length
  ·simp only [if_pos c] at b'
   exact ⟨fun _ => (h1 _ o (by omega) b').2.1, .inl (h1 _ o (by omega) b').2.1⟩
  ·simp only [if_neg c] at g b'
   exact h.lo t o g b'
 ·intro t o g b'
  simp only [newH_get, newF_get] at g ⊢
  by_cases c : b ≤ t ∧ t < b + l.length
  ·simp only [if_pos c] at b' ⊢
   exact ⟨fun _ => (h1 _ o (by omega) b').1, fun e => by cases e⟩
  ·simp only [if_neg c] at g b' ⊢
   exact h.fl t o g b'
theorem Rel.rewrite (h : Rel X s fz β a w) {H' : Nat → Option Row} {w' : World} {fz' : Nat → Prop} (hos : w'.os = w.os) (htp : w'.tape = w.tape) (hout : w'.output = w.output) (hsz : w.heap.size ≤ w'.heap.size)
  (hbel : ∀ k, k < X.w0.heap.size → ¬ X.wr k → w'.heap[k]? = w.heap[k]?) (hfz : ∀ b, fz b → w'.heap[b]? = w.heap[b]?)
  (h1 : ∀ b, fz b → fz' b) (h2 : ∀ b, fz' b → fz b ∨ (X.w0.heap.size ≤ b ∧ b < w'.heap.size ∧ ∀ t o, s.H t ≠ none → β t = some o → b ≠ o.blk))
  (hlen : ∀ t, (H' t).map (·.xs.length) = (s.H t).map (·.xs.length)) (hR : ∀ t r, H' t = some r → RowOk w' fz' β t r) {x' : Rs} (hx : XO X x' s.H fz' β w') : Rel X { s with H := H', x := x' } fz' β a w' := by
 have hn : ∀ t, H' t ≠ none → s.H t ≠ none := fun t h' e => h' (by
  have := hlen t
  rw [e] at this
  cases hq : H' t with
  | none => rfl
  | some q => rw [hq] at this; cases this)
 refine ⟨⟨hos.trans h.bel.os, htp.trans h.bel.tape, hout.trans h.bel.output, Nat.le_trans h.bel.size hsz, fun k hk hnw => (hbel k hk hnw).trans (h.bel.block k hk hnw)⟩, h.sz, h.df, fun i hi => ?_, hR, fun t1 t2 o1 o2 h1 h2 => h.ij t1 t2 o1 o2 (hn t1 h1) (hn t2 h2), fun t1 o1 h1 => h.lo t1 o1 (hn t1 h1), fun t1 o1 g1 g2 => ?_,
  fun b hb => ?_, fun b hb => h1 b (h.f0 b hb), fun g hg => (h.gl g hg).mono hfz h1, h.bi, fun i hi => (h.vt i hi).imp fun v hv => hv.mono hfz h1 (fun t n hd => by
  simp only [St.dm] at hd ⊢
  rw [hlen]; exact hd) (fun _ _ _ => rfl), hx.same hn⟩
 ·refine (h.tm i hi).mono hfz h1 (fun t n hd => ?_) (fun _ _ _ => rfl)
  simp only [St.dm] at hd ⊢
  rw [hlen]; exact hd
 ·refine ⟨fun hf hz => ?_, fun hf => h1 _ ((h.fl t1 o1 (hn t1 g1) g2).2 hf)⟩
  rcases h2 _ hz with hz | ⟨_, _, hz⟩
  ·exact (h.fl t1 o1 (hn t1 g1) g2).1 hf hz
  ·exact hz t1 o1 (hn t1 g1) g2 rfl
 ·rcases h2 b hb with hz | ⟨h3, h4, _⟩
  ·exact ⟨Nat.lt_of_lt_of_le (h.fs b hz).1 hsz, (h.fs b hz).2⟩
  ·exact ⟨h4, fun h5 => absurd h5 (by omega)⟩
theorem closedL_all : ∀ {l : List AV}, closedL l = true → ∀ x ∈ l, closed x = true
 | [], _, x, hx => by simp at hx
 | y :: l, h, x, hx => by
  simp only [closedL, Bool.and_eq_true] at h
  rcases List.mem_cons.1 hx with rfl | hx
  ·exact h.1
  ·exact closedL_all h.2 x hx
theorem closedAL_all : ∀ {l : List AV}, closedAL l = true → ∀ x ∈ l, closedA x = true
 | [], _, x, hx => by simp at hx
 | y :: l, h, x, hx => by
  simp only [closedAL, Bool.and_eq_true] at h
  rcases List.mem_cons.1 hx with rfl | hx
  ·exact h.1
  ·exact closedAL_all h.2 x hx
theorem F.closed {w : World} {fz fz' : Nat → Prop} {x : AV} {v : Value} (h : F w fz x v) (hc : Am.closed x = true) : F w fz' x v := by
 cases h <;> first | exact .nil | exact .int _ _ | exact .bool _ | exact .str _ | exact .raw _ ‹_› ‹_› | exact .fn _ | exact .nmap | simp [Am.closed] at hc
theorem F.closedA {w : World} {fz fz' : Nat → Prop} {x : AV} {v : Value} (h : F w fz x v) (hc : Am.closedA x = true) : F w fz' x v := by
 cases x with
 | agg cs =>
  obtain ⟨vs, rfl, hl, hs, hF⟩ := h.agg_inv
  exact .agg cs vs hl hs (fun i x v h1 h2 => (hF i x v h1 h2).closed (closedL_all hc x (List.mem_of_getElem? h1)))
 | _ => exact h.closed hc
theorem V.closed {w : World} {fz fz' : Nat → Prop} {β : Nat → Option Own} {dm : Nat → Option Nat} {x : AV} {v : Value} (h : V w fz β dm x v) (hc : Am.closed x = true) : V w fz' β dm x v := by
 cases h with
 | f _ _ hf => exact .f _ _ (hf.closed hc)
 | dead => exact .dead _
 | undef => exact .undef
 | own0 t n h1 h2 => exact .own0 t n h1 h2
 | own t off len ao c o n h1 h2 h3 h4 h5 h6 => exact .own t off len ao c o n h1 h2 h3 h4 h5 h6
 | optr t i k o n h1 h2 h3 => exact .optr t i k o n h1 h2 h3
 | lk x v h h1 h2 => exact .lk _ _ (V.closed h (by simpa [Am.closed] using hc)) h1 h2
 | agg => simp [Am.closed] at hc
 | tup => simp [Am.closed] at hc
theorem V.closedA {w : World} {fz fz' : Nat → Prop} {β : Nat → Option Own} {dm : Nat → Option Nat} {x : AV} {v : Value} (h : V w fz β dm x v) (hc : Am.closedA x = true) : V w fz' β dm x v := by
 cases x with
 | agg cs =>
  obtain ⟨vs, rfl, hl, hV⟩ := h.agg_inv
  exact .agg cs vs hl (fun i x v h1 h2 => (hV i x v h1 h2).closed (closedL_all hc x (List.mem_of_getElem? h1)))
 | _ => exact h.closed hc
theorem V.closedR {w : World} {fz fz' : Nat → Prop} {β : Nat → Option Own} {dm : Nat → Option Nat} {x : AV} {v : Value} (h : V w fz β dm x v) (hc : Am.closedR x = true) : V w fz' β dm x v := by
 cases x with
 | tup cs =>
  obtain ⟨vs, rfl, hl, hV⟩ := h.tup_inv
  exact .tup cs vs hl (fun i x v h1 h2 => (hV i x v h1 h2).closedA (closedAL_all hc x (List.mem_of_getElem? h1)))
 | _ => exact h.closedA hc
theorem RowOk.closed {w : World} {fz fz' : Nat → Prop} {β : Nat → Option Own} {t : Nat} {r : Row} (h : RowOk w fz β t r) (hc : ClosedRow r) : RowOk w fz' β t r := by
 unfold RowOk at *
 cases hb : β t with
 | none => rw [hb] at h; exact h
 | some o =>
  rw [hb] at h
  obtain ⟨e1, e2, e3, e4, cur, us, e5, e6, e7, e8, e9, e10⟩ := h
  exact ⟨e1, e2, e3, e4, cur, us, e5, e6, e7, fun i x u h1 h2 => (e8 i x u h1 h2).closedA (hc x (List.mem_of_getElem? h1)), e9, e10⟩
section
variable {w : World} {fz : Nat → Prop} {β β' : Nat → Option Own} {dm dm' : Nat → Option Nat} {τ : List Nat} {d : Nat}
theorem renS_V (hr : ∀ t n, dm t = some n → dm' (renT τ d t) = some n ∧ β' (renT τ d t) = β t) {x : AV} {v : Value} (h : V w fz β dm x v) : V w fz β' dm' (renS τ d x) v := by
 induction h with
 | f _ _ hf => cases hf <;> first | exact .dead _ | exact .f _ _ (by first | exact .nil | exact .int _ _ | exact .bool _ | exact .str _ | exact .sl0 _ _ | (constructor <;> assumption))
 | dead => exact .dead _
 | undef => exact .undef
 | own0 t n hd hb => exact .own0 _ n (hr t n hd).1 ((hr t n hd).2.trans hb)
 | own t off len ao c o n hd hb ha hl hc hn => exact .own _ off len ao c o n (hr t n hd).1 ((hr t n hd).2.trans hb) ha hl hc hn
 | optr t i k o n hd hb hn => exact .optr _ i k o n (hr t n hd).1 ((hr t n hd).2.trans hb) hn
 | lk x v h h1 h2 ih => exact .lk _ _ ih h1 h2
 | agg => exact .dead _
 | tup => exact .dead _
theorem renA_V (hr : ∀ t n, dm t = some n → dm' (renT τ d t) = some n ∧ β' (renT τ d t) = β t) {x : AV} {v : Value} (h : V w fz β dm x v) : V w fz β' dm' (renA τ d x) v := by
 unfold renA
 split
 ·rename_i cs
  obtain ⟨vs, rfl, hl, hV⟩ := h.agg_inv
  refine .agg _ vs (by simp [hl]) (fun i x v h1 h2 => ?_)
  rw [List.getElem?_map] at h1
  cases hq : cs[i]? with
  | none => rw [hq] at h1; cases h1
  | some q => rw [hq] at h1; obtain rfl := Option.some.inj h1; exact renS_V hr (hV i q v hq h2)
 ·exact renS_V hr h
theorem renV_V (hr : ∀ t n, dm t = some n → dm' (renT τ d t) = some n ∧ β' (renT τ d t) = β t) {x : AV} {v : Value} (h : V w fz β dm x v) : V w fz β' dm' (renV τ d x) v := by
 unfold renV
 split
 ·rename_i cs
  obtain ⟨vs, rfl, hl, hV⟩ := h.tup_inv
  refine .tup _ vs (by simp [hl]) (fun i x v h1 h2 => ?_)
  rw [List.getElem?_map] at h1
  cases hq : cs[i]? with
  | none => rw [hq] at h1; cases h1
  | some q => rw [hq] at h1; obtain rfl := Option.some.inj h1; exact renA_V hr (hV i q v hq h2)
 ·exact renA_V hr h
end
end
end Go.Proofs.YtpchdjdochkjpaaGreatDoor.Am
set_option linter.unusedVariables false
set_option linter.unusedSimpArgs false
namespace Go.Proofs.YtpchdjdochkjpaaGreatDoor.Am
open Go Go.RowKit
def lentT (τ : List Nat) (l : List AV) : List Nat := (l.flatMap tags).filter fun t => !τ.contains t
def aggFree (τ : List Nat) (l : List AV) : Bool := l.all fun x => match x with | .agg cs => (cs.flatMap tagS).all (fun t => !τ.contains t) | _ => true
inductive Ca (X : Cx) (s : St) (o : Oper) (e : Eff) (τ : List Nat) : Prop
 | mk (f : Nat) (args : Array Operand) (tys : Array TypeId) (ins outs : List Row) (cargs : List AV) (res : AV) (cl : Bool) (gh : List AV) {xs : Option Rs}
  (ho : o.op = .call { callee := .value (.func f), args, argTypes := tys })
  (hτl : τ.length = ins.length) (hτn : τ.Nodup) (hτ : ∀ j r, ins[j]? = some r → s.H (τ.getD j 0) = some r ∧ s.fr (τ.getD j 0) = false)
  (hc : convL τ s.H (args.toList.map (ev X.N X.G s.env)) = some cargs)
  (hag : aggFree τ (args.toList.map (ev X.N X.G s.env)) = true)
  {x : Rs} {xq0 : Rs → Prop} (hh : HoldsX X.P X.G f ins cargs gh x res outs xq0)
  (hgh : gh = [])
  (hcl : cl = true → closedR res = true ∧ ∀ r ∈ outs, ClosedRow r)
  (htag : cl = true ∨ tagOk (lentT τ (args.toList.map (ev X.N X.G s.env))) = true)
  (hd : ∀ d, o.dst = some d → ∀ j, j < outs.length - ins.length → s.H (tg d 0 + j) = none) (h16 : outs.length - ins.length ≤ 16)
  (he : e = { val := renV τ (o.dst.getD 0) res, new := outs.drop ins.length, wr := τ.zip outs, fz := if cl = true then [] else lentT τ (args.toList.map (ev X.N X.G s.env)), xs := xs })
  (hx : (x = Rs.no ∧ xs = none) ∨ (x = s.x ∧ cl = false ∧ isX X.P f = true ∧ ∃ y, xs = some y ∧ y.rd = s.x.rd ∧ ∀ z, xq0 z → z = y) := by exact .inl ⟨rfl, rfl⟩) : Ca X s o e τ
inductive CaX (X : Cx) (s : St) (o : Oper) (e : Eff) (τ : List Nat) (xq : Rs → Prop) : Prop
 | mk (f : Nat) (args : Array Operand) (tys : Array TypeId) (ins outs : List Row) (cargs : List AV) (res : AV) (cl : Bool) (gh : List AV) (x : Rs) (xq0 : Rs → Prop)
  (ho : o.op = .call { callee := .value (.func f), args, argTypes := tys })
  (hτl : τ.length = ins.length) (hτn : τ.Nodup) (hτ : ∀ j r, ins[j]? = some r → s.H (τ.getD j 0) = some r ∧ s.fr (τ.getD j 0) = false)
  (hc : convL τ s.H (args.toList.map (ev X.N X.G s.env)) = some cargs)
  (hag : aggFree τ (args.toList.map (ev X.N X.G s.env)) = true)
  (hh : HoldsX X.P X.G f ins cargs gh x res outs xq0)
  (hgh : gh = [])
  (hcl : cl = true → closedR res = true ∧ ∀ r ∈ outs, ClosedRow r)
  (htag : cl = true ∨ tagOk (lentT τ (args.toList.map (ev X.N X.G s.env))) = true)
  (hd : ∀ d, o.dst = some d → ∀ j, j < outs.length - ins.length → s.H (tg d 0 + j) = none) (h16 : outs.length - ins.length ≤ 16)
  (he : e = { val := renV τ (o.dst.getD 0) res, new := outs.drop ins.length, wr := τ.zip outs, fz := if cl = true then [] else lentT τ (args.toList.map (ev X.N X.G s.env)) })
  (hx : (x = Rs.no ∧ xq s.x) ∨ (x = s.x ∧ cl = false ∧ ∀ y, xq0 y → xq y)) : CaX X s o e τ xq
theorem putW_not (H : Nat → Option Row) : ∀ (l : List (Nat × Row)) (t : Nat), t ∉ l.map (·.1) → putW H l t = H t := by
 intro l
 induction l generalizing H with
 | nil => intro t _; rfl
 | cons p l ih =>
  intro t ht
  simp only [List.map_cons, List.mem_cons, not_or] at ht
  simp only [putW]
  rw [ih _ t ht.2, upd_apply, if_neg ht.1]
theorem putW_mem (H : Nat → Option Row) : ∀ (l : List (Nat × Row)), (l.map (·.1)).Nodup → ∀ t r, (t, r) ∈ l → putW H l t = some r := by
 intro l
 induction l generalizing H with
 | nil => intro _ t r h; simp at h
 | cons p l ih =>
  intro hn t r h
  simp only [List.map_cons, List.nodup_cons] at hn
  simp only [putW]
  rcases List.mem_cons.1 h with rfl | h
  ·rw [putW_not _ _ _ hn.1, upd_apply, if_pos rfl]
  ·exact ih _ hn.2 t r h
section
variable {X : Cx} {s : St} {fz : Nat → Prop} {β : Nat → Option Own} {a : Act} {w : World}
theorem convT_V {τ : List Nat} {fz' : Nat → Prop} {dm dm' : Nat → Option Nat} {β' : Nat → Option Own} {x y : AV} {v : Value} (hv : V w fz β dm x v)
  (hτ : ∀ t n, t ∈ τ → dm t = some n → dm' (τ.idxOf t) = some n ∧ β' (τ.idxOf t) = β t) (h : convT τ x = some y) : V w fz' β' dm' y v := by
 unfold convT at h
 split at h
 ·rename_i t off n
  cases hq : τ.contains t
  ·rw [hq] at h; cases h
  ·rw [hq] at h
   simp only [cond_true] at h
   obtain rfl := Option.some.inj h
   have ht := List.contains_iff_mem.1 hq
   cases hv with
   | f _ _ hf => cases hf
   | own0 _ m hd hb => exact .own0 _ m (hτ t m ht hd).1 ((hτ t m ht hd).2.trans hb)
   | own _ _ _ ao c o m hd hb ha hl hc hn => exact .own _ off n ao c o m (hτ t m ht hd).1 ((hτ t m ht hd).2.trans hb) ha hl hc hn
 ·rename_i t i o
  cases hq : τ.contains t
  ·rw [hq] at h; cases h
  ·rw [hq] at h
   simp only [cond_true] at h
   obtain rfl := Option.some.inj h
   have ht := List.contains_iff_mem.1 hq
   cases hv with
   | f _ _ hf => cases hf
   | optr _ _ _ ow m hd hb hn => exact .optr _ i o ow m (hτ t m ht hd).1 ((hτ t m ht hd).2.trans hb) hn
 ·cases h
theorem conv_V {τ : List Nat} {H : Nat → Option Row} {fz' : Nat → Prop} {dm dm' : Nat → Option Nat} {β' : Nat → Option Own} {x y : AV} {v : Value} (hv : V w fz β dm x v)
  (hτ : ∀ t n, t ∈ τ → dm t = some n → dm' (τ.idxOf t) = some n ∧ β' (τ.idxOf t) = β t)
  (hL : (∀ t ∈ tags x, t ∉ τ) → Lent H w fz fz' β dm (tags x)) (hag : ∀ cs, x = .agg cs → Lent H w fz fz' β dm (tags x)) (h : conv τ H x = some y) : V w fz' β' dm' y v := by
 unfold conv at h
 split at h
 ·rename_i t off n
  cases hq : τ.contains t
  ·rw [hq] at h
   simp only [cond_false] at h
   have ht : t ∉ τ := fun hm => by rw [List.contains_iff_mem.2 hm] at hq; cases hq
   exact .f _ _ (deep_F hv (hL (fun t' ht' => by simp [tags, tagS] at ht'; subst ht'; exact ht)) h)
  ·rw [hq] at h
   simp only [cond_true] at h
   obtain rfl := Option.some.inj h
   have ht := List.contains_iff_mem.1 hq
   cases hv with
   | f _ _ hf => cases hf
   | own0 _ m hd hb => exact .own0 _ m (hτ t m ht hd).1 ((hτ t m ht hd).2.trans hb)
   | own _ _ _ ao c o m hd hb ha hl hc hn => exact .own _ off n ao c o m (hτ t m ht hd).1 ((hτ t m ht hd).2.trans hb) ha hl hc hn
 ·rename_i t i o
  cases hq : τ.contains t
  ·rw [hq] at h; cases h
  ·rw [hq] at h
   simp only [cond_true] at h
   obtain rfl := Option.some.inj h
   have ht := List.contains_iff_mem.1 hq
   cases hv with
   | f _ _ hf => cases hf
   | optr _ _ _ ow m hd hb hn => exact .optr _ i o ow m (hτ t m ht hd).1 ((hτ t m ht hd).2.trans hb) hn
 ·rename_i x0 u
  split at h
  ·rename_i y0 hy0
   obtain rfl := Option.some.inj h
   cases hv with
   | f _ _ hf => cases hf
   | lk _ _ h0 g1 g2 => exact .lk _ _ (convT_V h0 hτ hy0) g1 g2
  ·obtain rfl := Option.some.inj h
   cases hv with
   | f _ _ hf => cases hf
   | lk _ _ h0 g1 g2 => exact .f _ _ (.raw _ g1 g2)
 ·rename_i h1 h2 h3
  refine .f _ _ (deep_F hv ?_ h)
  cases x with
  | agg cs => exact hag cs rfl
  | own t off n => exact absurd rfl (h1 t off n)
  | _ => exact hL (fun t ht => by simp [tags, tagS] at ht)
theorem convL_get {τ : List Nat} {H : Nat → Option Row} : ∀ {l ys : List AV}, convL τ H l = some ys → ys.length = l.length ∧ ∀ (i : Nat) (y : AV), ys[i]? = some y → ∃ x, l[i]? = some x ∧ conv τ H x = some y
 | [], ys, h => by simp only [convL, Option.some.injEq] at h; subst h; exact ⟨rfl, fun i y h => by simp at h⟩
 | x :: l, ys, h => by
  simp only [convL] at h
  split at h
  ·rename_i y ys' h1 h2
   obtain rfl := Option.some.inj h
   obtain ⟨g1, g2⟩ := convL_get h2
   refine ⟨by simp [g1], fun i z hz => ?_⟩
   cases i with
   | zero => simp at hz; subst hz; exact ⟨x, rfl, h1⟩
   | succ i => obtain ⟨q, q1, q2⟩ := g2 i z (by simpa using hz); exact ⟨q, by simpa using q1, q2⟩
  ·cases h
theorem callX_ok (hR : Rel X s fz β a w) {o : Oper} {e : Eff} {τ : List Nat} {xq : Rs → Prop} (h : CaX X s o e τ xq) {K : Act → World → Prop} {Q : Exit → Act → World → Prop}
  (hK : ∀ x' a' w' β' fz', xq x' → Rel X { s.app o.dst e with x := x' } fz' β' a' w' → K a' w') : o.wp X.P a w K Q := by
 obtain ⟨f, args, tys, ins, outs, cargs, res, cl, gh, xr, xq0, ho, hτl, hτn, hτ, hc, hag, hh, hgh, hcl, htag, hd, h16, rfl, hx⟩ := h
 obtain ⟨hcall, hh⟩ := hh
 generalize hav : args.toList.map (ev X.N X.G s.env) = avs at *
 have hP : Pw w fz β s.dm avs (args.toList.map a.eval) := by
  rw [← hav]
  exact Pw.of_map args.toList (fun x _ => ev_V hR x)
 have hτm : ∀ t, t ∈ τ → ∃ j r, j < ins.length ∧ ins[j]? = some r ∧ τ.getD j 0 = t ∧ τ.idxOf t = j ∧ s.H t = some r ∧ s.fr t = false := fun t ht => by
  have hj : τ.idxOf t < τ.length := List.idxOf_lt_length_iff.2 ht
  have hg : τ.getD (τ.idxOf t) 0 = t := by simp [hj]
  have hji : τ.idxOf t < ins.length := by omega
  have := hτ (τ.idxOf t) ins[τ.idxOf t] (by simp [hji])
  rw [hg] at this
  exact ⟨_, _, hji, by simp [hji], hg, rfl, this.1, this.2⟩
 have hlt : ∀ t ∈ lentT τ avs, t ∉ τ ∧ t ∈ avs.flatMap tags := fun t ht => by
  simp only [lentT, List.mem_filter, Bool.not_eq_true', ← Bool.not_eq_true, List.contains_iff_mem] at ht
  exact ⟨ht.2, ht.1⟩
 -- what is lent for good is not written any more
 obtain ⟨fz1, f1, f2, hR1⟩ : ∃ fz1 : Nat → Prop, (∀ b, fz b → fz1 b) ∧ (∀ t ∈ (if cl = true then [] else lentT τ avs), ∀ o, s.H t ≠ none → β t = some o → fz1 o.blk) ∧ Rel X { s with fr := frz s.fr (if cl = true then [] else lentT τ avs) } fz1 β a w := by
  cases cl
  ·simp only [Bool.false_eq_true, if_false, false_or] at htag ⊢
   exact hR.freeze _ htag
  ·simp only [if_true]
   exact hR.freeze [] rfl
 have hfrτ : ∀ t, t ∈ τ → frz s.fr (if cl = true then [] else lentT τ avs) t = false := fun t ht => by
  rw [frz_mem]
  ·obtain ⟨_, _, _, _, _, _, _, h⟩ := hτm t ht; exact h
  ·intro hm
   cases cl
   ·simp only [Bool.false_eq_true, if_false] at hm; exact (hlt t hm).1 ht
   ·simp at hm
 have hneτ : ∀ t, t ∈ τ → s.H t ≠ none := fun t ht => by obtain ⟨_, _, _, _, _, _, h, _⟩ := hτm t ht; rw [h]; simp
 have hnz1 : ∀ t o, t ∈ τ → β t = some o → ¬ fz1 o.blk := fun t o ht hb => (hR1.fl t o (hneτ t ht) hb).1 (hfrτ t ht)
 let fzc : Nat → Prop := fun b => fz1 b ∨ ∃ t o, t ∈ lentT τ avs ∧ s.H t ≠ none ∧ β t = some o ∧ b = o.blk
 have hnzc : ∀ t o, t ∈ τ → β t = some o → ¬ fzc o.blk := fun t o ht hb hz => by
  rcases hz with hz | ⟨t', o', h1, h2, h3, h4⟩
  ·exact hnz1 t o ht hb hz
  ·have := hR.ij t t' o o' (hneτ t ht) h2 hb h3 h4
   subst this
   exact (hlt t h1).1 ht
 have hfzc : ∀ b, fzc b → b < w.heap.size ∧ (b < X.w0.heap.size → fz1 b ∨ ∃ t o, t ∈ lentT τ avs ∧ s.H t ≠ none ∧ β t = some o ∧ b = o.blk) := fun b hb => by
  refine ⟨?_, fun _ => hb⟩
  rcases hb with hb | ⟨t, o, h1, h2, h3, rfl⟩
  ·exact (hR1.fs b hb).1
  ·cases hq : s.H t with
   | none => exact absurd hq h2
   | some r => exact (hR.rw t r hq).lt h3
 let βc : Nat → Option Own := fun j => if j < ins.length then β (τ.getD j 0) else none
 have hτget : ∀ j, j < ins.length → τ.getD j 0 ∈ τ := fun j hj => by
  have hjt : j < τ.length := by omega
  simp [hjt]
 have hβc : ∀ j, j < ins.length → βc j = β (τ.getD j 0) := fun j hj => if_pos hj
 have hPc : Pw w fzc βc (lens ins) cargs (args.toList.map a.eval) := by
  obtain ⟨g1, g2⟩ := convL_get hc
  refine ⟨by rw [g1, hP.1], fun i y v h1 h2 => ?_⟩
  obtain ⟨x, hx, hxy⟩ := g2 i y h1
  have hV := hP.2 i x v hx h2
  have hall : ∀ t ∈ tags x, t ∈ avs.flatMap tags := fun t ht => List.mem_flatMap.2 ⟨x, List.mem_of_getElem? hx, ht⟩
  have mk : (∀ t ∈ tags x, t ∉ τ ∨ True) → (∀ t ∈ tags x, ∀ o, s.H t ≠ none → β t = some o → fzc o.blk) → Lent s.H w fz fzc β s.dm (tags x) := fun _ h => hR.lent_of (fun b hb => .inl (f1 b hb)) hV h
  refine conv_V hV (fun t n ht hn => ?_) (fun hnot => ?_) (fun cs hcs => ?_) hxy
  ·obtain ⟨j, r, hj, hr, hg, hid, hH, _⟩ := hτm t ht
   rw [hid]
   refine ⟨?_, by rw [hβc j hj, hg]⟩
   simp only [lens, hr, Option.map_some]
   simp only [St.dm, hH, Option.map_some] at hn
   exact hn
  ·exact mk (fun _ _ => .inr trivial) (fun t ht o h1 h2 => .inr ⟨t, o, by simp only [lentT, List.mem_filter, Bool.not_eq_true', ← Bool.not_eq_true, List.contains_iff_mem]; exact ⟨hall t ht, hnot t ht⟩, h1, h2, rfl⟩)
  ·subst hcs
   -- an own row inside a struct that is handed on: 'deep' lends it; it must not be one that the call writes
   by_cases hex : ∃ t ∈ tags (.agg cs), t ∈ τ
   ·obtain ⟨t, ht, htτ⟩ := hex
    simp only [aggFree, List.all_eq_true] at hag
    have := hag _ (List.mem_of_getElem? hx)
    simp only [List.all_eq_true] at this
    have := this t ht
    simp only [Bool.not_eq_true', ← Bool.not_eq_true, List.contains_iff_mem] at this
    exact absurd htτ this
   ·exact mk (fun _ _ => .inr trivial) (fun t ht o h1 h2 => .inr ⟨t, o, by simp only [lentT, List.mem_filter, Bool.not_eq_true', ← Bool.not_eq_true, List.contains_iff_mem]; exact ⟨hall t ht, fun hm => hex ⟨t, ht, hm⟩⟩, h1, h2, rfl⟩)
 have hcalls := hh w fzc βc (args.toList.map a.eval) (fun g hg => (hR1.gl g hg).mono (fun _ _ => rfl) (fun b hb => .inl hb)) (fun b hb => (hfzc b hb).1)
  (fun j r hr => by
   have hj : j < ins.length := (List.getElem?_eq_some_iff.1 hr).1
   obtain ⟨h1, _⟩ := hτ j r hr
   have := hR1.rw (τ.getD j 0) r h1
   unfold RowOk at this ⊢
   rw [hβc j hj]
   have hm := this
   revert hm
   cases β (τ.getD j 0) with
   | none => exact id
   | some ow =>
    rintro ⟨e1, e2, e3, e4, cur, us, e5, e6, e7, e8, e9, e10⟩
    exact ⟨e1, e2, e3, e4, cur, us, e5, e6, e7, fun i x u a b => (e8 i x u a b).mono (fun _ _ => rfl) (fun b hb => .inl hb), e9, e10⟩)
  (fun j j' o o' hj hj' hb hb' he => by
   rw [hβc j hj] at hb
   rw [hβc j' hj'] at hb'
   have := hR.ij _ _ o o' (hneτ _ (hτget j hj)) (hneτ _ (hτget j' hj')) hb hb' he
   have hjt : j < τ.length := by omega
   have hjt' : j' < τ.length := by omega
   have e1 : τ.getD j 0 = τ[j] := by simp [hjt]
   have e2 : τ.getD j' 0 = τ[j'] := by simp [hjt']
   rw [e1, e2] at this
   exact (List.getElem_inj hτn).1 this)
  (fun j o hj hb => by rw [hβc j hj] at hb; exact hnzc _ o (hτget j hj) hb)
  hPc (fun y hy => by rw [hgh] at hy; simp at hy)
  (by
   rcases hx with ⟨rfl, _⟩ | ⟨rfl, _, _⟩
   ·exact ⟨trivial, fun b hb => hb.elim⟩
   ·refine ⟨(s.x.mono hR1.xo.1 (fun _ _ => rfl) (fun b hb => .inl hb)).1, fun b hb => ⟨(hR.xo.2 b hb).1, fun hz => ?_, fun t o ht ho e => ?_⟩⟩
    ·rcases hz with hz | ⟨t', o', h1, h2, h3, h4⟩
     ·exact (hR1.xo.2 b hb).2.1 hz
     ·exact (hR.xo.2 b hb).2.2.2 t' o' h2 h3 h4.symm
    ·rw [hβc t ht] at ho
     exact (hR.xo.2 b hb).2.2.2 _ o (hneτ _ (hτget t ht)) ho e)
 have hxb : ∀ b, xr.bl w b → s.x.bl w b := fun b hb => by
  rcases hx with ⟨rfl, _⟩ | ⟨rfl, _, _⟩
  ·exact hb.elim
  ·exact hb
 have hrun : (execOp a.eval o).run X.P w = .ok (.enter f (args.toList.map a.eval).toArray) w := by
  unfold callable at hcall
  split at hcall
  ·rename_i fn hfn
   simp only [Bool.and_eq_true, Bool.not_eq_true', beq_eq_false_iff_ne] at hcall
   have hargs : (args.toList.map a.eval).toArray = args.map a.eval := by apply Array.ext'; simp
   have hne := hcall.2
   rw [hargs]
   cases hq : fn.body with
   | none => rw [hq] at hcall; simp at hcall
   | some c => simp [execOp, ho, resolve, Act.eval, Deferred.ofValue, invoke, callFunc, hfn, hq, hne]
  ·cases hcall
 unfold Oper.wp
 rw [hrun]
 simp only [Oper.upon]
 refine hcalls.mono fun en w' hpost => ?_
 obtain ⟨v, β', fz', rfl, bel, g1, g2, hlen, hsame, hV, hrows, hinj, hfresh, xp, hq0, hxp1, hxp2⟩ := hpost
 have hkl : ins.length = τ.length := hτl.symm
 -- the rows that were written
 have hzip : (τ.zip outs).map (·.1) = τ := by
  rw [List.map_fst_zip (by omega)]
 have hH1 : ∀ t, t ∉ τ → putW s.H (τ.zip outs) t = s.H t := fun t ht => putW_not _ _ _ (by rw [hzip]; exact ht)
 have hH2 : ∀ j (hj : j < ins.length), putW s.H (τ.zip outs) (τ.getD j 0) = outs[j]? := fun j hj => by
  have hjt : j < τ.length := by omega
  have hjo : j < outs.length := by omega
  rw [List.getElem?_eq_getElem hjo]
  refine putW_mem _ _ (by rw [hzip]; exact hτn) _ _ ?_
  have hz : (τ.zip outs)[j]? = some (τ[j], outs[j]) := by simp [List.getElem?_zip_eq_some, hjt, hjo]
  have e1 : τ.getD j 0 = τ[j] := by simp [hjt]
  rw [e1]
  exact List.mem_of_getElem? hz
 let fz2 : Nat → Prop := fun b => if cl = true then fz1 b else fz' b
 have hfz2 : ∀ b, fz2 b → b < w'.heap.size ∧ (b < w.heap.size → fzc b) := fun b hb => by
  cases cl
  ·simp only [fz2, Bool.false_eq_true, if_false] at hb
   exact g2 b hb
  ·simp only [fz2, if_true] at hb
   exact ⟨Nat.lt_of_lt_of_le (hR1.fs b hb).1 bel.size, fun _ => .inl hb⟩
 have hcfz : ∀ b, cl = false → fzc b → fz1 b := fun b hcl' hb => by
  rcases hb with hb | ⟨t, o', h1, h2, h3, rfl⟩
  ·exact hb
  ·exact f2 t (by rw [hcl']; simp; exact h1) o' h2 h3
 have h12 : ∀ b, fz1 b → fz2 b := fun b hb => by
  cases cl
  ·simp only [fz2, Bool.false_eq_true, if_false]; exact g1 b (.inl hb)
  ·simp only [fz2, if_true]; exact hb
 have h21 : ∀ b, fz2 b → b < w.heap.size → fz1 b := fun b hb hlt' => by
  cases cl
  ·exact hcfz b rfl ((hfz2 b hb).2 hlt')
  ·simpa [fz2] using hb
 have hrow2 : ∀ t r, outs[t]? = some r → RowOk w' fz2 β' t r := fun t r hr => by
  have := hrows t r hr
  cases cl
  ·simpa [fz2] using this
  ·exact this.closed ((hcl rfl).2 r (List.mem_of_getElem? hr))
 have hV2 : V w' fz2 β' (lens outs) res v := by
  cases cl
  ·simpa [fz2] using hV
  ·exact hV.closedR (hcl rfl).1
 have hsz1 : ∀ t o', s.H t ≠ none → β t = some o' → o'.blk < w.heap.size := fun t o' ht hb => by
  cases hq : s.H t with
  | none => exact absurd hq ht
  | some r => exact (hR.rw t r hq).lt hb
 have hfz1 : ∀ b, fz1 b → w'.heap[b]? = w.heap[b]? := fun b hb => bel.block b (hR1.fs b hb).1 (fun h => h.elim (fun ⟨j, o', hj, hb', he⟩ => by
   rw [hβc j hj] at hb'
   exact hnz1 _ o' (hτget j hj) hb' (he ▸ hb)) (fun h => (hR1.xo.2 b (hxb b h)).2.1 hb))
 obtain ⟨x2, hq2, hX2, hX3⟩ : ∃ x2, xq x2 ∧ XO X x2 s.H fz2 β w' ∧ ∀ j o', j < outs.length → ins.length ≤ j → β' j = some o' → ¬ x2.bl w' o'.blk := by
  rcases hx with ⟨rfl, hqs⟩ | ⟨rfl, hclf, hqs⟩
  ·have hsame : ∀ b, fz1 b ∨ s.x.bl w b → w'.heap[b]? = w.heap[b]? := fun b hb => hb.elim (hfz1 b) (fun hb => bel.block b (hR.xo.2 b hb).1 (fun h => h.elim (fun ⟨j, o', hj, hb', he⟩ => by
    rw [hβc j hj] at hb'
    exact (hR.xo.2 b hb).2.2.2 _ o' (hneτ _ (hτget j hj)) hb' he.symm) (fun h => h.elim)))
   refine ⟨s.x, hqs, hR1.xo.mono hsame h12 (fun b hb => ?_) bel.size (fun t o' ht ho => .inl ⟨ht, ho⟩), fun j o' hj hij hb hz => ?_⟩
   ·rcases Nat.lt_or_ge b w.heap.size with hlt' | hge
    ·exact .inl (h21 b hb hlt')
    ·exact .inr (fun hz => by have := (hR.xo.2 b hz).1; omega)
   ·have := (hfresh j o' hj hb).2 hij
    have := (hR.xo.2 _ ((s.x.mono hR1.xo.1 hsame h12).2 _ hz)).1
    omega
  ·subst hclf
   refine ⟨xp, hqs xp hq0, ⟨by simpa [fz2] using hxp1, fun b hb => ?_⟩, fun j o' hj hij hb hz => (hxp2 _ hz).2.2.2 j o' hj hb rfl⟩
   obtain ⟨k1, k2, k3, k4⟩ := hxp2 b hb
   refine ⟨k1, by simpa [fz2] using k2, ?_, fun t o' ht ho => ?_⟩
   ·rcases k3 with k3 | k3
    ·exact (hR.xo.2 b k3).2.2.1
    ·exact .inl (Nat.le_trans hR.bel.size k3)
   ·rcases k3 with k3 | k3
    ·exact (hR.xo.2 b k3).2.2.2 t o' ht ho
    ·have := hsz1 t o' ht ho; omega
 have hR2 := hR1.rewrite (x' := x2) (H' := putW s.H (τ.zip outs)) (w' := w') (fz' := fz2) bel.os bel.tape bel.output bel.size
  (fun k hk hnw => bel.block k (Nat.lt_of_lt_of_le hk hR.bel.size) (fun h => h.elim (fun ⟨j, o', hj, hb, he⟩ => by
   rw [hβc j hj] at hb
   rcases (hR.lo _ o' (hneτ _ (hτget j hj)) hb).2 with h | h
   ·omega
   ·exact hnw (he ▸ h)) (fun h => by
   rcases (hR.xo.2 k (hxb k h)).2.2.1 with h | h
   ·omega
   ·exact hnw h)))
  hfz1
  h12
  (fun b hb => by
   rcases Nat.lt_or_ge b w.heap.size with hlt' | hge
   ·exact .inl (h21 b hb hlt')
   ·refine .inr ⟨Nat.le_trans hR.bel.size hge, (hfz2 b hb).1, fun t o' ht hb' => ?_⟩
    cases hq : s.H t with
    | none => exact absurd hq ht
    | some r => have := (hR.rw t r hq).lt hb'; omega)
  (fun t => by
   by_cases ht : t ∈ τ
   ·obtain ⟨j, r, hj, hr, hg, hid, hH, _⟩ := hτm t ht
    have h1 := hH2 j hj
    rw [hg] at h1
    rw [h1]
    have := (hsame j hj).2
    simp only [lens, hr, Option.map_some] at this
    rw [this, hH]
    rfl
   ·rw [hH1 t ht])
  (fun t r hr => by
   by_cases ht : t ∈ τ
   ·obtain ⟨j, r0, hj, hr0, hg, hid, hH, _⟩ := hτm t ht
    have h1 := hH2 j hj
    rw [hg] at h1
    rw [h1] at hr
    have := hrow2 j r hr
    unfold RowOk at this ⊢
    rw [(hsame j hj).1, hβc j hj, hg] at this
    exact this
   ·rw [hH1 t ht] at hr
    refine (hR1.rw t r hr).mono hfz1 h12 rfl (fun o' ho' => bel.block _ ((hR1.rw t r hr).lt ho') (fun h => h.elim (fun ⟨j, o'', hj, hb', he⟩ => ?_) (fun h => (hR.xo.2 _ (hxb _ h)).2.2.2 t o' (by rw [hr]; simp) ho' rfl)))
    rw [hβc j hj] at hb'
    have := hR.ij t _ o' o'' (by rw [hr]; simp) (hneτ _ (hτget j hj)) ho' hb' he
    exact ht (this ▸ hτget j hj))
  hX2
 cases hdst : o.dst with
 | none =>
  refine hK x2 _ w' β fz2 hq2 ?_
  have h7 := hR2.put (x := .dead) (v := v) (.dead _) none
  rw [hdst]
  exact h7
 | some d =>
  have hnew : ∀ j, j < (outs.drop ins.length).length → putW s.H (τ.zip outs) (tg d 0 + j) = none := fun j hj => by
   have h0 := hd d hdst j (by simpa using hj)
   have hnt : tg d 0 + j ∉ τ := fun hm => by
    have := hneτ _ hm
    exact this h0
   rw [hH1 _ hnt]; exact h0
  have hR3 := hR2.newRows (b := tg d 0) (l := outs.drop ins.length) (by unfold tg; omega) hnew (bo := fun j => β' (ins.length + j))
   (fun j o' hj hb => by
    simp only [List.length_drop] at hj
    have hfr := hfresh (ins.length + j) o' (by omega) hb
    have hge := hfr.2 (by omega)
    refine ⟨fun hz => ?_, Nat.le_trans hR.bel.size hge, fun t' o'' ht' hb' => ?_, hX3 _ o' (by omega) (by omega) hb⟩
    ·cases cl
     ·exact hfr.1 (by simpa [fz2] using hz)
     ·have : fz1 o'.blk := by simpa [fz2] using hz
      have := (hR1.fs _ this).1
      omega
    ·have ht'' : s.H t' ≠ none := fun e => by
      by_cases htτ : t' ∈ τ
      ·exact hneτ t' htτ e
      ·exact ht' ((hH1 t' htτ).trans e)
     cases hq : s.H t' with
     | none => exact absurd hq ht''
     | some r => have := (hR.rw t' r hq).lt hb'; omega)
   (fun j j' o1 o2 hj hj' hb hb' he => by
    simp only [List.length_drop] at hj hj'
    have := hinj _ _ o1 o2 (by omega) (by omega) hb hb' he
    omega)
   (fun j r hr => by
    rw [List.getElem?_drop] at hr
    have := hrow2 _ r hr
    unfold RowOk at this ⊢
    simp only [show tg d 0 + j - tg d 0 = j by omega]
    exact this)
  refine hK x2 _ w' (fun t => if tg d 0 ≤ t ∧ t < tg d 0 + (outs.drop ins.length).length then β' (ins.length + (t - tg d 0)) else β t) fz2 hq2 ?_
  have h8 := hR3.put (x := renV τ d res) (v := v) (renV_V (dm := lens outs) (β := β') (fun t n hn => ?_) hV2) (some d)
  ·rw [hdst]
   exact h8
  ·have hto : t < outs.length := by
    simp only [lens] at hn
    rcases Nat.lt_or_ge t outs.length with h | h
    ·exact h
    ·rw [List.getElem?_eq_none h] at hn; cases hn
   by_cases hti : t < τ.length
   ·have hti' : t < ins.length := by omega
    have e1 : renT τ d t = τ.getD t 0 := by simp [renT, hti]
    have hnot : ¬ (tg d 0 ≤ τ.getD t 0 ∧ τ.getD t 0 < tg d 0 + (outs.drop ins.length).length) := fun ⟨h1, h2⟩ => by
     have h0 := hd d hdst (τ.getD t 0 - tg d 0) (by rw [List.length_drop] at h2; omega)
     rw [show tg d 0 + (τ.getD t 0 - tg d 0) = τ.getD t 0 by omega] at h0
     exact hneτ _ (hτget t hti') h0
    rw [e1]
    refine ⟨?_, ?_⟩
    ·simp only [St.dm]
     rw [newH_get, if_neg hnot, hH2 t hti']
     exact hn
    ·rw [if_neg hnot, (hsame t hti').1, hβc t hti']
   ·have e1 : renT τ d t = tg d 0 + (t - τ.length) := by simp [renT, hti, tg]
    have hin : tg d 0 ≤ tg d 0 + (t - τ.length) ∧ tg d 0 + (t - τ.length) < tg d 0 + (outs.drop ins.length).length := ⟨by omega, by rw [List.length_drop]; omega⟩
    rw [e1]
    refine ⟨?_, ?_⟩
    ·simp only [St.dm]
     rw [newH_get, if_pos hin, List.getElem?_drop, show ins.length + (tg d 0 + (t - τ.length) - tg d 0) = t by omega]
     exact hn
    ·rw [if_pos hin, show ins.length + (tg d 0 + (t - τ.length) - tg d 0) = t by omega]
theorem call_ok (hR : Rel X s fz β a w) {o : Oper} {e : Eff} {τ : List Nat} (h : Ca X s o e τ) {K : Act → World → Prop} {Q : Exit → Act → World → Prop}
  (hK : ∀ a' w' β' fz', Rel X (s.app o.dst e) fz' β' a' w' → K a' w') : o.wp X.P a w K Q := by
 obtain ⟨f, args, tys, ins, outs, cargs, res, cl, gh, ho, hτl, hτn, hτ, hc, hag, hh, hgh, hcl, htag, hd, h16, he, hx⟩ := h
 rename_i xs x0 xq1
 subst he
 refine callX_ok (xq := fun y => y = xs.getD s.x) hR (.mk f args tys ins outs cargs res cl gh _ _ ho hτl hτn hτ hc hag hh hgh hcl htag hd h16 rfl ?_) (fun x' a' w' β' fz' hx' h => hK a' w' β' fz' ?_)
 ·rcases hx with ⟨rfl, rfl⟩ | ⟨rfl, h1, _, y, rfl, _, h2⟩
  ·exact .inl ⟨rfl, rfl⟩
  ·exact .inr ⟨rfl, h1, fun z hz => h2 z hz⟩
 ·subst hx'
  cases hd' : o.dst <;> rw [hd'] at h <;> exact h
end
end Go.Proofs.YtpchdjdochkjpaaGreatDoor.Am
set_option linter.unusedVariables false
set_option linter.unusedSimpArgs false
namespace Go.Proofs.YtpchdjdochkjpaaGreatDoor.Am
open Go Go.RowKit
def gd (N : Nat) (ops : Array Oper) (env : Nat → AV) (o : Oper) : Option Bool :=
 match o.guard with
 | none => some true
 | some (j, want) => match (ops[j]?).bind (·.dst) with
  | some d => need (decide (d < N)) (match env d with
   | .bool b => some (b == want)
   | .undef => some false
   | _ => none)
  | none => some false
def putE (env : Nat → AV) (d : Option Nat) (x : AV) : Nat → AV := match d with | some d => upd env d x | none => env
inductive Has (t : Nat) : AV → Prop
 | own (off n) : Has t (.own t off n)
 | optr (i o) : Has t (.optr t i o)
 | lk (x v) (h : Has t x) : Has t (.lk x v)
 | agg (cs : List AV) (x : AV) (hx : x ∈ cs) (h : Has t x) : Has t (.agg cs)
 | tup (cs : List AV) (x : AV) (hx : x ∈ cs) (h : Has t x) : Has t (.tup cs)
def tgA : AV → List Nat
 | .own t _ _ => [t]
 | .optr t _ _ => [t]
 | _ => []
theorem tgA_has {t : Nat} {x : AV} (h : t ∈ tgA x) : Has t x := by cases x <;> simp [tgA] at h <;> subst h <;> constructor
def isW (P : Program) (f : Nat) : Bool := match P.funcs[f]? with | some fn => fn.results.size == 0 || fn.params.any (isPt P) | none => true
inductive Step (X : Cx) (ops : Array Oper) (s : St) (o : Oper) : St → Prop
 | skip (hg : gd X.N ops s.env o = some false) : Step X ops s o { s with env := putE s.env o.dst .undef }
 | act (d : Nat) (e : Eff) (hg : gd X.N ops s.env o = some true) (hd : o.dst = some d ∨ (o.dst = none ∧ e.new = [])) (h : act X.P X.N X.G s d o.op = some e) : Step X ops s o (s.app o.dst e)
 | call (e : Eff) (hg : gd X.N ops s.env o = some true) (h : Ca X s o e []) : Step X ops s o (s.app o.dst e)
inductive StepA (X : Cx) (ops : Array Oper) (s : St) (o : Oper) (s' : St) : Prop
 | step (h : Step X ops s o s')
 | callW (e : Eff) (τ : List Nat) (f : Nat) (args : Array Operand) (tys : Array TypeId) (hg : gd X.N ops s.env o = some true) (h : Ca X s o e τ) (hf : o.op = .call { callee := .value (.func f), args, argTypes := tys }) (hw : isW X.P f = true) (hs : s' = s.app o.dst e) (hτ : ∀ t ∈ τ, ∃ x ∈ args.toList, Has t (ev X.N X.G s.env x))
 | app (d : Nat) (x y : Operand) (t : TypeId) (hg : gd X.N ops s.env o = some true) (hd : o.dst = some d) (ho : o.op = .call { callee := .builtin .append, args := #[x, y], argTypes := #[t, t] })
   (h : apA X.P s d t (ev X.N X.G s.env x) (ev X.N X.G s.env y) = some s')
inductive Run (X : Cx) (ops : Array Oper) : List Nat → St → St → Prop
 | nil (s) : Run X ops [] s s
 | cons (i l s s1 s2) (o : Oper) (ho : ops[i]? = some o) (h : StepA X ops s o s1) (hr : Run X ops l s1 s2) : Run X ops (i :: l) s s2
section
variable {X : Cx} {ops : Array Oper} {s s' : St} {fz : Nat → Prop} {β : Nat → Option Own} {a : Act} {w : World} {Q : Exit → Act → World → Prop} {K : Act → World → Prop} {o : Oper} {i : Nat}
theorem gd_ok (hR : Rel X s fz β a w) {b : Bool} (h : gd X.N ops s.env o = some b) : Region.wanted o (yielded ops a.tmps) = b := by
 unfold gd at h
 unfold Region.wanted
 split at h
 ·rename_i hg
  rw [hg]
  exact Option.some.inj h
 ·rename_i j want hg
  rw [hg]
  simp only
  split at h
  ·rename_i d hd
   obtain ⟨hN, h⟩ := need_some h
   have hN := of_decide_eq_true hN
   have hV := hR.tm d hN
   have hsz : d < a.tmps.size := by rw [hR.sz]; exact hN
   have hy : yielded ops a.tmps j = match a.tmps[d]'hsz with | .bool b => some b | _ => none := by
    unfold yielded
    rw [hd]
    simp only [Option.bind_some, Array.getElem?_eq_getElem hsz]
    cases a.tmps[d] <;> rfl
   have hget : a.tmps.getD d undef = a.tmps[d] := by simp [hsz]
   rw [hget] at hV
   rw [hy]
   split at h
   ·rename_i c hc
    rw [hc] at hV
    rw [hV.bool_inv]
    simp only
    obtain rfl := Option.some.inj h
    cases c <;> cases want <;> rfl
   ·rename_i hc
    rw [hc] at hV
    have : a.tmps[d] = undef := by
     generalize a.tmps[d] = q at hV
     cases hV with
     | undef => rfl
     | f _ _ hf => cases hf
    rw [this]
    obtain rfl := Option.some.inj h
    rfl
   ·cases h
  ·rename_i hd
   have hy : yielded ops a.tmps j = none := by
    unfold yielded
    rw [hd]
    rfl
   rw [hy]
   obtain rfl := Option.some.inj h
   rfl
theorem step_ok (hR : Rel X s fz β a w) (ho : ops[i]? = some o) (h : StepA X ops s o s') (hK : ∀ a' w' β' fz', Rel X s' fz' β' a' w' → K a' w') : wpOp X.P ops Q i K a w := by
 unfold wpOp
 simp only [ho]
 cases h with
 | step h =>
  cases h with
  | skip hg =>
   rw [gd_ok hR hg]
   simp only [Bool.false_eq_true, if_false]
   refine hK _ _ β fz ?_
   have := hR.put (x := .undef) (v := undef) .undef o.dst
   exact this
  | act d e hg hd h =>
   rw [gd_ok hR hg]
   simp only [if_true]
   left
   obtain ⟨v, w', β', fz', h1, h2⟩ := act_ok hR h hd
   unfold Oper.wp
   rcases h1 with h1 | ⟨h1, rfl⟩
   ·rw [h1]; exact hK _ _ _ _ h2
   ·rw [h1]; exact hK _ _ _ _ h2
  | call e hg h =>
   rw [gd_ok hR hg]
   simp only [if_true]
   exact .inl (call_ok hR h hK)
 | callW e τ f args tys hg h hf hw hs hτ =>
  subst hs
  rw [gd_ok hR hg]
  simp only [if_true]
  exact .inl (call_ok hR h hK)
 | app d x y t hg hd hop h =>
  rw [gd_ok hR hg]
  simp only [if_true]
  left
  obtain ⟨v, w', β', h1, h2⟩ := apA_ok (ty := o.type) hR (ev_V hR x) (ev_V hR y) h
  have hrun : (execOp a.eval o).run X.P w = .ok (.value v) w' := by
   simp [execOp, hop, resolve, invoke, builtin, h1]
  unfold Oper.wp
  rw [hrun]
  simp only [Oper.upon]
  rw [hd]
  exact hK _ _ _ _ h2
end
def resV1 (X : Cx) (s : St) : ResultVar → Option AV
 | .tmp t => need (decide (t < X.N)) (some (s.env t))
 | .cell p ty => need (decide (p < X.N)) (ld X.P s.H ty (s.env p))
def resL (X : Cx) (s : St) : List ResultVar → Option (List AV)
 | [] => some []
 | r :: rs => match resV1 X s r, resL X s rs with | some x, some xs => some (x :: xs) | _, _ => none
def resV (X : Cx) (s : St) (l : List ResultVar) : Option AV :=
 match resL X s l with
 | some [x] => some x
 | some xs => some (.tup xs)
 | none => none
def resF (tmps : Array Value) : ResultVar → Sem Value
 | .tmp t => pure (tmps.getD t undef)
 | .cell c t => do loadVar t (← asAddr (tmps.getD c undef))
theorem resL_ok {X : Cx} {s : St} {fz : Nat → Prop} {β : Nat → Option Own} {a : Act} {w : World} (hR : Rel X s fz β a w) : ∀ {l : List ResultVar} {xs : List AV}, resL X s l = some xs →
  ∃ vs : List Value, (l.mapM (resF a.tmps)).run X.P w = .ok vs w ∧ Pw w fz β s.dm xs vs
 | [], xs, h => by simp only [resL, Option.some.injEq] at h; subst h; exact ⟨[], by simp, Pw.nil⟩
 | r :: rs, xs, h => by
  simp only [resL] at h
  split at h
  ·rename_i x xs' h1 h2
   obtain rfl := Option.some.inj h
   obtain ⟨vs, g1, g2⟩ := resL_ok hR h2
   cases r with
   | tmp t =>
    simp only [resV1] at h1
    obtain ⟨hN, h1⟩ := need_some h1
    obtain rfl := Option.some.inj h1
    have hN := of_decide_eq_true hN
    refine ⟨a.tmps.getD t undef :: vs, ?_, Pw.cons (hR.tm t hN) g2⟩
    rw [List.mapM_cons, Sem.run_bind]
    simp only [resF, Sem.run_pure, Result.andThen_ok]
    rw [Sem.run_bind, g1]
    rfl
   | cell p ty =>
    simp only [resV1] at h1
    obtain ⟨hN, h1⟩ := need_some h1
    have hN := of_decide_eq_true hN
    obtain ⟨u, hu, hF⟩ := ld_V hR (hR.tm p hN) h1
    have hV := hR.tm p hN
    have hu' : (do loadVar ty (← asAddr (a.tmps.getD p undef)) : Sem Value).run X.P w = .ok u w := by
     generalize a.tmps.getD p undef = q at hu hV
     generalize s.env p = z at hV h1
     cases hV with
     | f _ _ hf =>
      cases hf <;> first | (simp [ld] at h1; done) | (unfold Instr.loadAt Instr.sureAddr at hu; simp only [asAddr, pure_bind] at hu ⊢; exact hu) | (unfold ld at h1; split at h1 <;> simp_all)
     | optr => unfold Instr.loadAt Instr.sureAddr at hu; simp only [asAddr, pure_bind] at hu ⊢; exact hu
     | _ => unfold ld at h1; split at h1 <;> simp_all
    refine ⟨u :: vs, ?_, Pw.cons (.f _ _ hF) g2⟩
    rw [List.mapM_cons, Sem.run_bind]
    simp only [resF, hu', Result.andThen_ok]
    rw [Sem.run_bind, g1]
    rfl
  ·cases h
theorem resV_ok {X : Cx} {s : St} {fz : Nat → Prop} {β : Nat → Option Own} {a : Act} {w : World} (hR : Rel X s fz β a w) {fn : Func} {x : AV} (h : resV X s fn.results.toList = some x) :
  ∃ v, (results fn a.tmps).run X.P w = .ok v w ∧ V w fz β s.dm x v := by
 unfold resV at h
 have key : ∀ {xs : List AV}, resL X s fn.results.toList = some xs → ∃ vs : List Value, (results fn a.tmps).run X.P w = .ok (if h : vs.length = 1 then vs[0] else .tuple vs.toArray) w ∧ Pw w fz β s.dm xs vs := by
  intro xs hxs
  obtain ⟨vs, h1, h2⟩ := resL_ok hR hxs
  refine ⟨vs, ?_, h2⟩
  have e : results fn a.tmps = (do
    let vs ← fn.results.mapM (resF a.tmps)
    pure (if h : vs.size = 1 then vs[0] else .tuple vs)) := by
   unfold results
   congr 1
  rw [e, Array.mapM_eq_mapM_toList]
  simp only [bind_map_left, Sem.run_bind]
  rw [h1]
  simp only [Result.andThen_ok, Sem.run_pure]
  congr 1
 split at h
 ·rename_i y hy
  obtain rfl := Option.some.inj h
  obtain ⟨vs, h1, h2⟩ := key hy
  have hl : vs.length = 1 := by simpa using h2.1
  refine ⟨vs[0], by rw [h1]; simp [hl], h2.2 0 y _ rfl (by simp [hl])⟩
 ·rename_i xs hxs hne
  obtain rfl := Option.some.inj h
  obtain ⟨vs, h1, h2⟩ := key hne
  have hl : ¬ vs.length = 1 := fun e => by
   have := h2.1
   rw [e] at this
   obtain ⟨y, rfl⟩ := List.length_eq_one_iff.1 this.symm
   exact absurd rfl (hxs y)
  exact ⟨.tuple vs.toArray, by rw [h1]; simp [hl], .tup xs vs h2.1 h2.2⟩
 ·cases h
end Go.Proofs.YtpchdjdochkjpaaGreatDoor.Am

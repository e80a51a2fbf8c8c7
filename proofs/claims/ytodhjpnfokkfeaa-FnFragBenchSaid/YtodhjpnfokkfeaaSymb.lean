/- A logic of slots and own blocks: what is known of the slots is a list E, what is known of the blocks that the call itself made is a list L; every rule takes one step. -/
import Derived.Test.YtodhjpnfokkfeaaSyma
import Derived.Deep.QuietTactic
import Derived.Deep.LoopGhost
import Derived.Deep.MidRow
import Derived.Laws.AppendOwn
set_option linter.unusedSimpArgs false
set_option linter.unusedVariables false
namespace Go.Proofs.Ytodhjpnfokkfeaa
open Go Go.RowKit
theorem mH {α : Type} {a : α} {l : List α} : a ∈ a :: l := List.Mem.head _
theorem mT {α : Type} {a b : α} {l : List α} (h : a ∈ l) : a ∈ b :: l := List.Mem.tail _ h
def get : List (Nat × Value) → Nat → Option Value
  | [], _ => none
  | (s, v) :: r, t => match Nat.beq s t with
    | true => some v
    | false => get r t
structure Env (n : Nat) (a : Act) (E : List (Nat × Value)) : Prop where
  size : a.tmps.size = n
  defers : a.defers = []
  vals : ∀ t v, get E t = some v → a.tmps[t]? = some v
def ev (E : List (Nat × Value)) : Operand → Option Value
  | .tmp t => get E t
  | .const v => some v
  | .global g => some (.pointer (some ⟨g, 0, none⟩))
  | .func f => some (.func (.func f) #[] #[])
section
variable {n : Nat} {a : Act} {E E' : List (Nat × Value)}
theorem Env.eval (h : Env n a E) {x : Operand} {v : Value} (hx : ev E x = some v) : a.eval x = v := by
  cases x with
  | tmp t => have := h.vals t v hx; simp [Act.eval, this]
  | const c => exact Option.some.inj hx
  | global g => exact Option.some.inj hx
  | func f => exact Option.some.inj hx
theorem get_cons (s : Nat) (v : Value) (r : List (Nat × Value)) (t : Nat) : get ((s, v) :: r) t = if s = t then some v else get r t := by
  show (match Nat.beq s t with | true => some v | false => get r t) = _
  by_cases h : s = t
  · subst h; simp
  · have : Nat.beq s t = false := by
      cases hb : Nat.beq s t
      · rfl
      · exact absurd (Nat.eq_of_beq_eq_true hb) h
    rw [this, if_neg h]
theorem Env.put (h : Env n a E) {d : Nat} (hd : Nat.blt d n = true) (v : Value) : Env n (a.put (some d) v) ((d, v) :: E) := by
  have hlt : d < n := by have h2 := hd; simp [Nat.blt] at h2; omega
  refine ⟨by simp [Act.put, h.size], h.defers, fun t u hu => ?_⟩
  rw [get_cons] at hu
  show (a.tmps.setIfInBounds d v)[t]? = some u
  by_cases e : d = t
  · subst e
    rw [if_pos rfl] at hu
    cases hu
    rw [Array.getElem?_setIfInBounds_self]
    simp [h.size, hlt]
  · rw [if_neg e] at hu
    rw [Array.getElem?_setIfInBounds_ne e]
    exact h.vals t u hu
theorem Env.none (h : Env n a E) (v : Value) : Env n (a.put none v) E := h
/-- fewer slots -/
theorem Env.sub (h : Env n a E) (hs : ∀ t v, get E' t = some v → get E t = some v) : Env n a E' := ⟨h.size, h.defers, fun t v ht => h.vals t v (hs t v ht)⟩
end
def subE (E : List (Nat × Value)) : List (Nat × Value) → Prop
  | [] => True
  | (t, v) :: r => get E t = some v ∧ subE E r
theorem subE_get {E : List (Nat × Value)} : ∀ {E' : List (Nat × Value)}, subE E E' → ∀ t v, get E' t = some v → get E t = some v
  | [], _, _, _, h => by cases h
  | (s, u) :: r, hs, t, v, h => by
    rw [get_cons] at h
    by_cases e : s = t
    · subst e; rw [if_pos rfl] at h; cases h; exact hs.1
    · rw [if_neg e] at h; exact subE_get hs.2 t v h

/-! ### worlds -/
def Ext (w w' : World) : Prop := Below w.heap.size w w'
theorem Ext.refl (w : World) : Ext w w := Below.refl _ w
theorem Ext.trans {a b c : World} (h : Ext a b) (k : Ext b c) : Ext a c := Below.trans h (Below.mono k h.size)
theorem Ext.cell {w w' : World} (h : Ext w w') {p : Addr} {v : Value} (hp : w.cell? p = some v) : w'.cell? p = some v := by
  rw [Below.cell h (World.block_lt_of_cell? w p hp)]; exact hp
theorem Ext.drew (w : World) : Ext w w.drew := (Below.refl _ _).drew
theorem Ext.alloc (w : World) (o : Obj) : Ext w (w.alloc o) := (Below.refl _ _).alloc (Nat.le_refl _) o
/-- a row of elements of t, each of m cells: the slice v holds the cells cs -/
structure Row where
  v : Value
  t : TypeId
  m : Nat
  n : Nat
  cs : List Value
/-- the row lies somewhere in a block of its elements' tag; what lies ahead of it and behind its capacity is not told -/
def Row.In (w : World) (x : Row) : Prop := x.cs.length = x.n * x.m ∧ ((x.v = .slice none 0 0 ∧ x.n = 0) ∨ ∃ g o cap cur, x.v = .slice (some ⟨g, o, none⟩) x.n cap ∧ w.heap[g]? = some (.cells cur x.t (0, 0)) ∧ x.n ≤ cap ∧ cap ≤ maxLen ∧ o + cap * x.m ≤ cur.size ∧ (cur.toList.drop o).take (x.n * x.m) = x.cs)
theorem Row.In.of {w : World} {v : Value} {t : TypeId} {b m n : Nat} {cs : List Value} (h : w.ownsRow b t m v n cs) : Row.In w ⟨v, t, m, n, cs⟩ := by
  obtain ⟨h0, h⟩ := h
  refine ⟨h0, ?_⟩
  rcases h with h | ⟨g, cap, cur, hv, _, hg, h1, h2, h3, h4⟩
  · exact .inl h
  · exact .inr ⟨g, 0, cap, cur, hv, hg, h1, h2, by dsimp only; omega, by rw [List.drop_zero]; exact h4⟩
/-- what the call owns: a block; a slice with what lies behind it; rows that are written no more -/
inductive Blk
  | blk (b : Nat) (t : TypeId) (cs : List Value)
  | row (v : Value) (t : TypeId) (m n : Nat) (cs : List Value)
  | many (l : List Row)
  | frame (w : World) (lo : Nat) (xs : List Nat)
def Blk.foot : Blk → Nat → Prop
  | .blk b _ _, k => k = b
  | .row v _ _ _ _, k => v.ownBlock = some k
  | .many l, k => ∃ x ∈ l, x.v.ownBlock = some k
  | .frame w lo xs, k => lo ≤ k ∧ k < w.heap.size ∧ k ∉ xs
def Own (w : World) : Blk → Prop
  | .blk b t cs => w.heap[b]? = some (.cells cs.toArray t (0, 0))
  | .row v t m n cs => Row.In w ⟨v, t, m, n, cs⟩
  | .many l => (∀ x ∈ l, Row.In w x) ∧ l.Pairwise (fun x y => ∀ k, x.v.ownBlock = some k → ¬ y.v.ownBlock = some k)
  | .frame w0 lo xs => ∀ k, lo ≤ k → k < w0.heap.size → k ∉ xs → w.heap[k]? = w0.heap[k]?
theorem Row.In.lt {w : World} {x : Row} (h : Row.In w x) {k : Nat} (hk : x.v.ownBlock = some k) : k < w.heap.size := by
  rcases h.2 with ⟨hv, _⟩ | ⟨g, o, cap, cur, hv, hg, _⟩
  · rw [hv] at hk; cases hk
  · rw [hv] at hk
    have e : g = k := by simpa [Value.ownBlock] using hk
    subst e
    exact (Array.getElem?_eq_some_iff.1 hg).1
theorem Row.In.loc {w w' : World} {x : Row} (h : Row.In w x) (hk : ∀ k, x.v.ownBlock = some k → w'.heap[k]? = w.heap[k]?) : Row.In w' x := by
  obtain ⟨h0, h⟩ := h
  refine ⟨h0, ?_⟩
  rcases h with h | ⟨g, o, cap, cur, hv, hg, rest⟩
  · exact .inl h
  · exact .inr ⟨g, o, cap, cur, hv, (hk g (by rw [hv]; rfl)).trans hg, rest⟩
theorem Own.lt {w : World} {x : Blk} (h : Own w x) {k : Nat} (hk : x.foot k) : k < w.heap.size := by
  cases x with
  | blk b t cs =>
    have hk' : k = b := hk
    rw [hk']
    rcases Nat.lt_or_ge b w.heap.size with hlt | hge
    · exact hlt
    · have h' : w.heap[b]? = _ := h
      rw [Array.getElem?_eq_none hge] at h'; cases h'
  | row v t m n cs => exact Row.In.lt h hk
  | many l => obtain ⟨y, hy, hk⟩ := hk; exact Row.In.lt (h.1 y hy) hk
  | frame w0 lo xs =>
    obtain ⟨h1, h2, h3⟩ := hk
    have h4 : w.heap[k]? = w0.heap[k]? := h k h1 h2 h3
    rcases Nat.lt_or_ge k w.heap.size with hlt | hge
    · exact hlt
    · rw [Array.getElem?_eq_none hge, Array.getElem?_eq_getElem h2] at h4; cases h4
theorem Own.loc {w w' : World} {x : Blk} (h : Own w x) (hk : ∀ k, x.foot k → w'.heap[k]? = w.heap[k]?) : Own w' x := by
  cases x with
  | blk b t cs => exact (hk b rfl).trans h
  | row v t m n cs => exact Row.In.loc h hk
  | many l => exact ⟨fun y hy => (h.1 y hy).loc fun k hk' => hk k ⟨y, hy, hk'⟩, h.2⟩
  | frame w0 lo xs => exact fun k h1 h2 h3 => (hk k ⟨h1, h2, h3⟩).trans (h k h1 h2 h3)
theorem Own.ext {w w' : World} {x : Blk} (h : Own w x) (k : Ext w w') : Own w' x := h.loc fun i hi => k.block i (h.lt hi)
theorem Own.cell {w : World} {b : Nat} {t : TypeId} {cs : List Value} (h : Own w (.blk b t cs)) (i : Nat) : w.cell? ⟨b, i, none⟩ = cs[i]? := by
  unfold Own at h
  simp [World.cell?, h]
structure St (w0 w : World) (L : List Blk) : Prop where
  ext : Ext w0 w
  own : ∀ x ∈ L, (∀ k, x.foot k → w0.heap.size ≤ k) ∧ Own w x
  nd : L.Pairwise (fun x y => ∀ k, x.foot k → ¬ y.foot k)
theorem St.start (w : World) : St w w [] := ⟨Ext.refl w, by simp, .nil⟩
theorem St.step {w0 w w' : World} {L : List Blk} (h : St w0 w L) (k : Ext w w') : St w0 w' L := ⟨h.ext.trans k, fun x hx => ⟨(h.own x hx).1, (h.own x hx).2.ext k⟩, h.nd⟩
/-- what comes new -/
theorem St.cons {w0 w w' : World} {L : List Blk} {x : Blk} (h : St w0 w L) (hk : Ext w w') (ho : Own w' x) (hx : ∀ k, x.foot k → w.heap.size ≤ k) : St w0 w' (x :: L) := by
  have hs := h.step hk
  refine ⟨hs.ext, fun y hy => ?_, ?_⟩
  · rcases List.mem_cons.1 hy with rfl | hy
    · exact ⟨fun k hf => Nat.le_trans h.ext.size (hx k hf), ho⟩
    · exact hs.own y hy
  · rw [List.pairwise_cons]
    refine ⟨fun y hy k hf hf' => ?_, h.nd⟩
    have h1 := hx k hf
    have h2 := (h.own y hy).2.lt hf'
    omega
theorem St.new {w0 w : World} {L : List Blk} (h : St w0 w L) (t : TypeId) (cs : List Value) : St w0 (w.alloc (.cells cs.toArray t)) (.blk w.heap.size t cs :: L) :=
  h.cons (Ext.alloc w _) (heap_alloc_new w _) (fun k hk => by have hk' : k = w.heap.size := hk; omega)
/-- an entry of the list is another one -/
def Upd (L : List Blk) (x y : Blk) (L' : List Blk) : Prop := ∃ L1 L2, L = L1 ++ x :: L2 ∧ L' = L1 ++ y :: L2
theorem Upd.here {L : List Blk} {x y : Blk} : Upd (x :: L) x y (y :: L) := ⟨[], L, rfl, rfl⟩
theorem Upd.there {L L' : List Blk} {x y z : Blk} (h : Upd L x y L') : Upd (z :: L) x y (z :: L') := by
  obtain ⟨L1, L2, rfl, rfl⟩ := h
  exact ⟨z :: L1, L2, rfl, rfl⟩
theorem Upd.mem {L L' : List Blk} {x y : Blk} (h : Upd L x y L') : x ∈ L := by obtain ⟨L1, L2, rfl, _⟩ := h; simp
/-- an entry is turned: it, and what is new, alone -/
theorem St.turn {w0 w w' : World} {L L' : List Blk} {x y : Blk} (h : St w0 w L) (hu : Upd L x y L') (e1 : w'.os = w.os) (e2 : w'.tape = w.tape) (e3 : w'.output = w.output) (e4 : w.heap.size ≤ w'.heap.size)
    (hb : ∀ k, k < w.heap.size → ¬ x.foot k → w'.heap[k]? = w.heap[k]?) (ho : Own w' y) (hf : ∀ k, y.foot k → x.foot k ∨ w.heap.size ≤ k) : St w0 w' L' := by
  obtain ⟨L1, L2, rfl, rfl⟩ := hu
  have hx := h.own x (by simp)
  have hnd := h.nd
  rw [List.pairwise_append, List.pairwise_cons] at hnd
  obtain ⟨n1, ⟨n2, n3⟩, n4⟩ := hnd
  have hlt := h.ext.size
  have other : ∀ z, z ∈ L1 ∨ z ∈ L2 → (∀ k, z.foot k → ¬ x.foot k) ∧ (∀ k, z.foot k → ¬ y.foot k) := fun z hz => by
    have h1 : ∀ k, z.foot k → ¬ x.foot k := fun k hk hk' => by
      rcases hz with hz | hz
      · exact n4 z hz x (by simp) k hk hk'
      · exact n2 z hz k hk' hk
    refine ⟨h1, fun k hk hk' => ?_⟩
    rcases hf k hk' with hx' | hge
    · exact h1 k hk hx'
    · have := (h.own z (by rcases hz with hz | hz <;> simp [hz])).2.lt hk
      omega
  refine ⟨⟨e1.trans h.ext.os, e2.trans h.ext.tape, e3.trans h.ext.output, Nat.le_trans h.ext.size e4, fun k hk => ?_⟩, fun z hz => ?_, ?_⟩
  · rw [hb k (by omega) (fun hk' => by have := hx.1 k hk'; omega)]
    exact h.ext.block k hk
  · rw [List.mem_append, List.mem_cons] at hz
    have keep : z ∈ L1 ∨ z ∈ L2 → (∀ k, z.foot k → w0.heap.size ≤ k) ∧ Own w' z := fun hz => by
      have hz' := h.own z (by rcases hz with hz | hz <;> simp [hz])
      exact ⟨hz'.1, hz'.2.loc fun k hk => hb k (hz'.2.lt hk) ((other z hz).1 k hk)⟩
    rcases hz with hz | rfl | hz
    · exact keep (.inl hz)
    · refine ⟨fun k hk => ?_, ho⟩
      rcases hf k hk with hx' | hge
      · exact hx.1 k hx'
      · omega
    · exact keep (.inr hz)
  · rw [List.pairwise_append, List.pairwise_cons]
    refine ⟨n1, ⟨fun z hz k hk hk' => (other z (.inr hz)).2 k hk' hk, n3⟩, fun z hz u hu k hk => ?_⟩
    rcases List.mem_cons.1 hu with rfl | hu
    · exact (other z (.inl hz)).2 k hk
    · exact n4 z hz u (by simp [hu]) k hk
theorem St.drop {w0 w : World} {L L' : List Blk} (h : St w0 w L) (hs : L'.Sublist L) : St w0 w L' := ⟨h.ext, fun x hx => h.own x (hs.subset hx), h.nd.sublist hs⟩
/-- how a region's later worlds stand to the one at hand: none: they are it; some xs: all that was there is as it was but for the blocks xs -/
def ExtX (xs : List Nat) (w w' : World) : Prop := w'.os = w.os ∧ w'.tape = w.tape ∧ w'.output = w.output ∧ w.heap.size ≤ w'.heap.size ∧ ∀ k, k < w.heap.size → k ∉ xs → w'.heap[k]? = w.heap[k]?
def Rel : Option (List Nat) → World → World → Prop
  | none => Eq
  | some xs => ExtX xs
theorem ExtX.refl (xs : List Nat) (w : World) : ExtX xs w w := ⟨rfl, rfl, rfl, Nat.le_refl _, fun _ _ _ => rfl⟩
theorem ExtX.trans {xs : List Nat} {a b c : World} (h : ExtX xs a b) (k : ExtX xs b c) : ExtX xs a c :=
  ⟨k.1.trans h.1, k.2.1.trans h.2.1, k.2.2.1.trans h.2.2.1, Nat.le_trans h.2.2.2.1 k.2.2.2.1, fun i hi hx => (k.2.2.2.2 i (Nat.lt_of_lt_of_le hi h.2.2.2.1) hx).trans (h.2.2.2.2 i hi hx)⟩
theorem ExtX.of {xs : List Nat} {w w' : World} (h : Ext w w') : ExtX xs w w' := ⟨h.os, h.tape, h.output, h.size, fun i hi _ => h.block i hi⟩
theorem Rel.refl (r : Option (List Nat)) (w : World) : Rel r w w := by cases r; exact rfl; exact ExtX.refl _ w
theorem Rel.trans {r : Option (List Nat)} (a b c : World) (h : Rel r a b) (k : Rel r b c) : Rel r a c := by
  cases r
  · exact Eq.trans h k
  · exact ExtX.trans h k
def notInL (b : Nat) : List Nat → Prop
  | [] => True
  | x :: xs => b ≠ x ∧ notInL b xs
def NotIn (r : Option (List Nat)) (b : Nat) : Prop :=
  match r with
  | none => True
  | some xs => notInL b xs
theorem notInL.mem {b : Nat} : ∀ {xs : List Nat}, notInL b xs → b ∉ xs
  | [], _ => by simp
  | x :: xs, h => by
    rw [List.mem_cons]
    rintro (e | e)
    · exact h.1 e
    · exact notInL.mem h.2 e
theorem Own.rel {r : Option (List Nat)} {w w' : World} {x : Blk} (h : Own w x) (k : Rel r w w') (hn : ∀ i, x.foot i → NotIn r i) : Own w' x := by
  cases r with
  | none => cases k; exact h
  | some xs => exact h.loc fun i hi => k.2.2.2.2 i (h.lt hi) (notInL.mem (hn i hi))
/-- a cell of the memory that was there when the call began -/
theorem cell_rel {r : Option (List Nat)} {w0 w w' : World} {L : List Blk} (h : St w0 w L) (k : Rel r w w') {p : Addr} {v : Value} (hp : w0.cell? p = some v) (hn : NotIn r p.block) : w'.cell? p = some v := by
  have hw := h.ext.cell hp
  cases r with
  | none => cases k; exact hw
  | some xs => rw [World.cell?_of_block (k.2.2.2.2 p.block (World.block_lt_of_cell? w p hw) (notInL.mem hn))]; exact hw

/-- one block is written (by whoever) -/
theorem St.upd {w0 w w' : World} {L L' : List Blk} {b : Nat} {t : TypeId} {cs cs' : List Value} (h : St w0 w L) (hu : Upd L (.blk b t cs) (.blk b t cs') L') (hx : ExtX [b] w w') (ho : Own w' (.blk b t cs')) : St w0 w' L' :=
  h.turn hu hx.1 hx.2.1 hx.2.2.1 hx.2.2.2.1 (fun k hk hn => hx.2.2.2.2 k hk (by rw [List.mem_singleton]; exact hn)) ho (fun k hk => .inl hk)
theorem ext_setRow {w : World} {b : Nat} (cs : Array Value) : ExtX [b] w (w.setRow b cs) := ⟨rfl, rfl, rfl, by simp [World.setRow], fun k _ hk => setRow_other w b k cs (by simpa using hk)⟩

/-! ### judgements -/
section
variable (P : Program) (n : Nat) (w0 : World)
def GoS (r : Option (List Nat)) (Q : Exit → Act → World → Prop) (E : List (Nat × Value)) (L : List Blk) (l : List Stp) : Prop := ∀ a w, Env n a E → St w0 w L → wpS P Q (Rel r) l a w
def GoC (Q : Exit → Act → World → Prop) (E : List (Nat × Value)) (L : List Blk) (c : Code) : Prop := ∀ a w, Env n a E → St w0 w L → c.wp P Q a w
def GoE (Q : Exit → Act → World → Prop) (E : List (Nat × Value)) (L : List Blk) (e : Exit) : Prop := ∀ a w, Env n a E → St w0 w L → Q e a w
end
section
variable {P : Program} {n : Nat} {w0 : World} {r : Option (List Nat)} {Q : Exit → Act → World → Prop} {E E' : List (Nat × Value)} {L L' : List Blk} {l : List Stp}

/-! #### code -/
theorem C_seq {x y : Code} (h : GoC P n w0 (Exit.then (y.wp P Q) Q) E L x) : GoC P n w0 Q E L (.seq x y) := fun a w he hs => wp_seq (h a w he hs)
theorem C_skip (h : GoE n w0 Q E L .normal) : GoC P n w0 Q E L .skip := fun a w he hs => wp_skip (h a w he hs)
theorem C_exit {i : Nat} (h : GoE n w0 Q E L (.exit i)) : GoC P n w0 Q E L (.exit i) := fun a w he hs => wp_exit (h a w he hs)
theorem C_ret (h : GoE n w0 Q E L .ret) : GoC P n w0 Q E L .ret := fun a w he hs => wp_ret (h a w he hs)
theorem C_block {i : Nat} {c : Code} (h : GoC P n w0 (Exit.inBlock i Q) E L c) : GoC P n w0 Q E L (.block i c) := fun a w he hs => wp_block (h a w he hs)
theorem C_true {c : Operand} {x y : Code} (hc : ev E c = some (.bool true)) (h : GoC P n w0 Q E L x) : GoC P n w0 Q E L (.cond c x y) := fun a w he hs => wp_cond_true (he.eval hc) (h a w he hs)
theorem C_false {c : Operand} {x y : Code} (hc : ev E c = some (.bool false)) (h : GoC P n w0 Q E L y) : GoC P n w0 Q E L (.cond c x y) := fun a w he hs => wp_cond_false (he.eval hc) (h a w he hs)
theorem C_split {t : Nat} {b : Bool} {x y : Code} (hc : ev E (.tmp t) = some (.bool b)) (ht : b = true → GoC P n w0 Q E L x) (hf : b = false → GoC P n w0 Q E L y) : GoC P n w0 Q E L (.cond (.tmp t) x y) := fun a w he hs => by
  cases b
  · exact wp_cond_false (he.eval hc) (hf rfl a w he hs)
  · exact wp_cond_true (he.eval hc) (ht rfl a w he hs)
theorem C_plain {ops : List Oper} {i : Nat} {s : List Stp} (p : List (Nat × Nat)) (hok : plainOk ops p = true) (hs : mkS ops p = s) (h : GoS P n w0 none Q E L s) : GoC P n w0 Q E L (.region i ops.toArray false) :=
  fun a w he hst => wp_plain p hok hs (h a w he hst)
theorem C_drawn {ops : List Oper} {i : Nat} {s : List Stp} (p : List (Nat × Nat)) (xs : List Nat) (hm : P.follows .mixedOrders = true) (hok : regOk P ops p = true) (hs : mkS ops p = s) (h : GoS P n w0 (some xs) (Calm Q) E L s) : GoC P n w0 Q E L (.region i ops.toArray true) :=
  fun a w he hst => wp_drawn (Rel (some xs)) p hm (Rel.refl _) Rel.trans hok hs (h a w.drew he (hst.step (Ext.drew w)))
theorem C_drawn1 {ops : List Oper} {i : Nat} {s : List Stp} {b1 o1 : Nat} (t1 : Nat) (h1 : get E t1 = some (.pointer (some ⟨b1, o1, none⟩))) (p : List (Nat × Nat)) (hm : P.follows .mixedOrders = true) (hok : regOk P ops p = true) (hs : mkS ops p = s) (h : GoS P n w0 (some [b1]) (Calm Q) E L s) : GoC P n w0 Q E L (.region i ops.toArray true) :=
  have _ := h1
  C_drawn p [b1] hm hok hs h
theorem C_drawn2 {ops : List Oper} {i : Nat} {s : List Stp} {b1 o1 b2 o2 : Nat} (t1 t2 : Nat) (h1 : get E t1 = some (.pointer (some ⟨b1, o1, none⟩))) (h2 : get E t2 = some (.pointer (some ⟨b2, o2, none⟩))) (p : List (Nat × Nat)) (hm : P.follows .mixedOrders = true) (hok : regOk P ops p = true) (hs : mkS ops p = s) (h : GoS P n w0 (some [b1, b2]) (Calm Q) E L s) : GoC P n w0 Q E L (.region i ops.toArray true) :=
  have _ := h1
  have _ := h2
  C_drawn p [b1, b2] hm hok hs h
/-- forget slots and blocks -/
theorem C_forget {c : Code} (hE : subE E E') (hL : L'.Sublist L) (h : GoC P n w0 Q E' L' c) : GoC P n w0 Q E L c := fun a w he hs => h a w (he.sub (subE_get hE)) (hs.drop hL)
theorem S_forget (hE : subE E E') (hL : L'.Sublist L) (h : GoS P n w0 r Q E' L' l) : GoS P n w0 r Q E L l := fun a w he hs => h a w (he.sub (subE_get hE)) (hs.drop hL)
/-- what a round hands on -/
def Rnd {α : Type} (n : Nat) (w0 : World) (Ei : α → List (Nat × Value)) (Li : α → List Blk) (φ : α → Prop) (μ : α → Nat) (m : Nat) (a : Act) (w : World) : Prop := ∃ x', φ x' ∧ μ x' < m ∧ Env n a (Ei x') ∧ St w0 w (Li x')
/-- a loop: the slots and blocks of a round by a state x -/
theorem C_loop {α : Type} {c : Code} (Ei : α → List (Nat × Value)) (Li : α → List Blk) (φ : α → Prop) (μ : α → Nat) (x0 : α) (h0 : φ x0) (hE : subE E (Ei x0)) (hL : (Li x0).Sublist L)
    (round : ∀ x, φ x → GoC P n w0 (Exit.then (Rnd n w0 Ei Li φ μ (μ x)) Q) (Ei x) (Li x) c) : GoC P n w0 Q E L (.loop c) := fun a w he hs => by
  refine wp_loop_ghost (fun m a w => ∃ x, μ x = m ∧ φ x ∧ Env n a (Ei x) ∧ St w0 w (Li x)) (μ x0) ⟨x0, rfl, h0, he.sub (subE_get hE), hs.drop hL⟩ ?_
  rintro m a w ⟨x, rfl, hx, he, hs⟩
  refine wp_mono (round x hx a w he hs) ?_
  intro e a' w' hq
  cases e with
  | normal =>
    obtain ⟨x', h1, h2, h3, h4⟩ := hq
    exact ⟨μ x', h2, x', rfl, h1, h3, h4⟩
  | exit i => exact hq
  | goto l => exact hq
  | ret => exact hq
  | panic c => exact hq
  | outgrown => exact hq

/-! #### ends -/
theorem E_then {y : Code} (h : GoC P n w0 Q E L y) : GoE n w0 (Exit.then (y.wp P Q) Q) E L .normal := h
theorem E_thenX {K : Act → World → Prop} {i : Nat} (h : GoE n w0 Q E L (.exit i)) : GoE n w0 (Exit.then K Q) E L (.exit i) := h
theorem E_thenR {K : Act → World → Prop} (h : GoE n w0 Q E L .ret) : GoE n w0 (Exit.then K Q) E L .ret := h
theorem E_block {i : Nat} (h : GoE n w0 Q E L .normal) : GoE n w0 (Exit.inBlock i Q) E L .normal := h
theorem E_blockX {i j : Nat} (hne : Nat.beq i j = false) (h : GoE n w0 Q E L (.exit i)) : GoE n w0 (Exit.inBlock j Q) E L (.exit i) := fun a w he hs => by
  have : i ≠ j := fun e => by subst e; simp at hne
  simp only [Exit.inBlock, this, if_false]
  exact h a w he hs
theorem E_blockY {i : Nat} (h : GoE n w0 Q E L .normal) : GoE n w0 (Exit.inBlock i Q) E L (.exit i) := fun a w he hs => by
  simp only [Exit.inBlock, if_true]
  exact h a w he hs
theorem E_blockR {i : Nat} (h : GoE n w0 Q E L .ret) : GoE n w0 (Exit.inBlock i Q) E L .ret := h
theorem E_round {α : Type} {Ei : α → List (Nat × Value)} {Li : α → List Blk} {φ : α → Prop} {μ : α → Nat} {m : Nat} (x' : α) (h1 : φ x') (h2 : μ x' < m) (hE : subE E (Ei x')) (hL : (Li x').Sublist L) :
    GoE n w0 (Exit.then (Rnd n w0 Ei Li φ μ m) Q) E L .normal := fun _ _ he hs => ⟨x', h1, h2, he.sub (subE_get hE), hs.drop hL⟩
theorem E_calm (h : GoE n w0 Q E L .normal) : GoE n w0 (Calm Q) E L .normal := h
end
end Go.Proofs.Ytodhjpnfokkfeaa

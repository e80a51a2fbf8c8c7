/- Slices: what they are in memory, and the rules of the operations on them. -/
import Derived.Test.YtodhjpnfokkfeaaSymc
import Derived.Great.BuildSlice
import Derived.Laws.OwnMore
import Derived.Deep.AppendSrc
set_option linter.unusedSimpArgs false
set_option linter.unusedVariables false
namespace Go.Proofs.Ytodhjpnfokkfeaa
open Go Go.RowKit
/-- v is a slice of n elements -/
def IsN (v : Value) (n : Nat) : Prop := ∃ a c, v = .slice a n c ∧ n ≤ c ∧ c ≤ maxLen ∧ (0 < n → ∃ b o, a = some ⟨b, o, none⟩)
/-- v is a slice of n elements of m cells each, and these hold cs -/
def Mem (w : World) (v : Value) (m n : Nat) (cs : List Value) : Prop := IsN v n ∧ cs.length = n * m ∧ ∀ j u, cs[j]? = some u → ∃ b o c, v = .slice (some ⟨b, o, none⟩) n c ∧ w.cell? ⟨b, o + j, none⟩ = some u
/-- the place o cells behind the slice's first -/
def sp (v : Value) (o : Nat) : Value := match v with
  | .slice (some a) _ _ => .pointer (some (a.add o))
  | _ => .pointer none
theorem sp_lit (b o n c k : Nat) : sp (.slice (some ⟨b, o, none⟩) n c) k = .pointer (some ⟨b, o + k, none⟩) := by
  unfold sp Addr.add
  by_cases h : k = 0
  · subst h; simp
  · simp [h]
def blkOf (v : Value) : Nat := match v with
  | .slice (some a) _ _ => a.block
  | _ => 0
theorem isN_nil : IsN (.slice none 0 0) 0 := ⟨none, 0, rfl, Nat.le_refl _, by simp [maxLen], fun h => by omega⟩
theorem mem_nil (w : World) (m : Nat) : Mem w (.slice none 0 0) m 0 [] := ⟨isN_nil, by simp, fun j u h => by simp at h⟩
theorem Mem.ext {w w' : World} {v : Value} {m n : Nat} {cs : List Value} (h : Mem w v m n cs) (k : Ext w w') : Mem w' v m n cs := ⟨h.1, h.2.1, fun j u hj => by
  obtain ⟨b, o, c, h1, h2⟩ := h.2.2 j u hj
  exact ⟨b, o, c, h1, k.cell h2⟩⟩
theorem Row.In.mem {w : World} {v : Value} {t : TypeId} {m n : Nat} {cs : List Value} (h : Row.In w ⟨v, t, m, n, cs⟩) : Mem w v m n cs := by
  obtain ⟨h0, h⟩ := h
  dsimp only at h0 h
  rcases h with ⟨rfl, rfl⟩ | ⟨g, o, cap, cur, rfl, hg, h1, h2, h3, h4⟩
  · have : cs = [] := List.eq_nil_of_length_eq_zero (by simpa using h0)
    subst this
    exact mem_nil w m
  · refine ⟨⟨_, _, rfl, h1, h2, fun _ => ⟨g, o, rfl⟩⟩, h0, fun j u hj => ⟨g, o, cap, rfl, ?_⟩⟩
    rw [cell_of_row w g (o + j) cur t (0, 0) hg]
    rw [← h4, List.getElem?_take] at hj
    split at hj
    · rw [List.getElem?_drop] at hj; simpa using hj
    · cases hj
section
variable {P : Program} {n : Nat} {w0 : World} {r : Option (List Nat)} {Q : Exit → Act → World → Prop} {E E' : List (Nat × Value)} {L L' : List Blk} {l : List Stp} {k d : Nat} {op : Op} {ty : TypeId}
/-- what can be read of a slice while the region goes on -/
def Rd (w0 : World) (L : List Blk) (r : Option (List Nat)) (v : Value) (m n : Nat) (cs : List Value) : Prop := ∀ w w', St w0 w L → Rel r w w' → Mem w' v m n cs
def LenOf (w0 : World) (L : List Blk) (v : Value) (n : Nat) : Prop := ∀ w, St w0 w L → IsN v n
/-- the region writes nothing that was there -/
def FreeG (w0 : World) (L : List Blk) (r : Option (List Nat)) : Prop := ∀ w, St w0 w L → ∀ k, k < w0.heap.size → NotIn r k
def FreeR (w0 : World) (L : List Blk) (r : Option (List Nat)) (v : Value) : Prop := ∀ w, St w0 w L → ∀ k, v.ownBlock = some k → NotIn r k
theorem freeG0 : FreeG w0 L none := fun _ _ _ _ => trivial
theorem freeG1 : FreeG w0 L (some []) := fun _ _ _ _ => trivial
theorem freeG2 {c : Nat} {xs : List Nat} {t : TypeId} {cs : List Value} (h : .blk c t cs ∈ L) (h2 : FreeG w0 L (some xs)) : FreeG w0 L (some (c :: xs)) := fun w hs k hk => ⟨by have := (hs.own _ h).1 c rfl; omega, h2 w hs k hk⟩
theorem freeR0 {v : Value} : FreeR w0 L none v := fun _ _ _ _ => trivial
theorem freeR1 {v : Value} : FreeR w0 L (some []) v := fun _ _ _ _ => trivial
def ApartR (w0 : World) (L : List Blk) (v : Value) (c : Nat) : Prop := ∀ w, St w0 w L → v.ownBlock ≠ some c
theorem freeR2 {v : Value} {c : Nat} {xs : List Nat} (h1 : ApartR w0 L v c) (h2 : FreeR w0 L (some xs) v) : FreeR w0 L (some (c :: xs)) v := fun w hs k hk => ⟨fun e => h1 w hs (e ▸ hk), h2 w hs k hk⟩
theorem apartR1 {v : Value} {c : Nat} {t t' : TypeId} {m n : Nat} {cs cs' : List Value} (h : .blk c t' cs' ∈ L) : ApartR w0 (.row v t m n cs :: L) v c := fun w hs e => by
  have := hs.nd
  rw [List.pairwise_cons] at this
  exact this.1 _ h c e rfl
theorem apartR2 {v : Value} {c : Nat} {t t' : TypeId} {m n : Nat} {cs cs' : List Value} (h : .row v t m n cs ∈ L) : ApartR w0 (.blk c t' cs' :: L) v c := fun w hs e => by
  have := hs.nd
  rw [List.pairwise_cons] at this
  exact this.1 _ h c rfl e
theorem apartR3 {v : Value} {c : Nat} {x : Blk} (h : ApartR w0 L v c) : ApartR w0 (x :: L) v c := fun w hs => h w (hs.drop (List.sublist_cons_self x L))
theorem Mem.rel {w w' : World} {v : Value} {m n : Nat} {cs : List Value} (h : Mem w0 v m n cs) (hs : St w0 w L) (k : Rel r w w') (hf : FreeG w0 L r) : Mem w' v m n cs := ⟨h.1, h.2.1, fun j u hj => by
  obtain ⟨b, o, c, h1, h2⟩ := h.2.2 j u hj
  exact ⟨b, o, c, h1, cell_rel hs k h2 (hf w hs b (World.block_lt_of_cell? w0 _ h2))⟩⟩
theorem rd_given {v : Value} {m n : Nat} {cs : List Value} (h : Mem w0 v m n cs) (hf : FreeG w0 L r) : Rd w0 L r v m n cs := fun _ _ hs hR => h.rel hs hR hf
theorem rd_nil {m : Nat} : Rd w0 L r (.slice none 0 0) m 0 [] := fun _ w' _ _ => mem_nil w' m
theorem rd_row {v : Value} {t : TypeId} {m n : Nat} {cs : List Value} (h : .row v t m n cs ∈ L) (hf : FreeR w0 L r v) : Rd w0 L r v m n cs := fun w w' hs hR => by
  have ho : Own w' (.row v t m n cs) := (hs.own _ h).2.rel hR fun k hk => hf w hs k hk
  exact Row.In.mem ho
theorem rd_many {x : Row} {xs : List Row} (hx : x ∈ xs) (h : .many xs ∈ L) (hf : FreeR w0 L r x.v) : Rd w0 L r x.v x.m x.n x.cs := fun w w' hs hR => by
  have ho := (hs.own _ h).2
  have hi : Row.In w x := ho.1 x hx
  have : Row.In w' x := by
    cases r with
    | none => cases hR; exact hi
    | some ys => exact hi.loc fun k hk => hR.2.2.2.2 k (hi.lt hk) (notInL.mem (hf w hs k hk))
  exact this.mem
theorem rd_blk {b : Nat} {t : TypeId} {m n : Nat} {cs : List Value} (h : .blk b t cs ∈ L) (hl : cs.length = n * m) (hm : n ≤ maxLen) (hf : Free w0 L r b) : Rd w0 L r (.slice (some ⟨b, 0, none⟩) n n) m n cs := fun w w' hs hR => by
  have ho : Own w' (.blk b t cs) := (hs.own _ h).2.rel hR fun k hk => (show k = b from hk) ▸ hf w hs
  exact ⟨⟨_, _, rfl, Nat.le_refl _, hm, fun _ => ⟨b, 0, rfl⟩⟩, hl, fun j u hj => ⟨b, 0, n, rfl, by rw [Nat.zero_add, ho.cell]; exact hj⟩⟩
theorem len_rd {v : Value} {m n : Nat} {cs : List Value} (h : Rd w0 L none v m n cs) : LenOf w0 L v n := fun w hs => (h w w hs rfl).1
theorem len_given {v : Value} {m n : Nat} {cs : List Value} (h : Mem w0 v m n cs) : LenOf w0 L v n := fun _ _ => h.1
theorem len_row {v : Value} {t : TypeId} {m n : Nat} {cs : List Value} (h : .row v t m n cs ∈ L) : LenOf w0 L v n := fun _ hs => (Row.In.mem (hs.own _ h).2).1
theorem len_isN {v : Value} {n : Nat} (h : IsN v n) : LenOf w0 L v n := fun _ _ => h
theorem len_nil : LenOf w0 L (.slice none 0 0) 0 := fun _ _ => isN_nil
/-- a memory of the world at hand, for a callee -/
theorem Mem.given {w : World} {v : Value} {m n : Nat} {cs : List Value} (hs : St w0 w L) (h : Mem w0 v m n cs) : Mem w v m n cs := h.ext hs.ext
theorem Mem.row {w : World} {v : Value} {t : TypeId} {m n : Nat} {cs : List Value} (hs : St w0 w L) (h : .row v t m n cs ∈ L) : Mem w v m n cs := Row.In.mem (hs.own _ h).2
theorem Mem.len {w : World} {v : Value} {m n : Nat} {cs : List Value} (h : Mem w v m n cs) : n ≤ maxLen := by
  obtain ⟨⟨a, c, _, h1, h2, _⟩, _⟩ := h
  omega

/-! ### elements -/
def IsEl (P : Program) (t e : TypeId) (m bs : Nat) (zs : List Value) : Prop := P.underlying t = some (.slice e) ∧ 0 < m ∧ zs.length = m ∧ ∃ i z, P.info? e = some i ∧ i.zero = some z ∧ i.size = m ∧ i.bytes = bs ∧ z.cells = zs.toArray
/-- from o on the list holds us -/
def At (cs : List Value) (o : Nat) (us : List Value) : Prop := ∀ j u, us[j]? = some u → cs[o + j]? = some u
theorem flat_len {α : Type} {f : α → List Value} {m : Nat} (hm : ∀ x, (f x).length = m) : ∀ l : List α, (l.flatMap f).length = l.length * m
  | [] => by simp
  | x :: l => by rw [List.flatMap_cons, List.length_append, hm, flat_len hm l, List.length_cons, Nat.add_mul]; omega
theorem at_flat {α : Type} {f : α → List Value} {m : Nat} (hm : ∀ x, (f x).length = m) : ∀ {l : List α} {k : Nat} {x : α}, l[k]? = some x → At (l.flatMap f) (k * m) (f x)
  | [], _, _, h => by simp at h
  | y :: l, 0, x, h => fun j u hj => by
    simp at h; subst h
    have hlt : j < (f y).length := (List.getElem?_eq_some_iff.1 hj).1
    rw [List.flatMap_cons, Nat.zero_mul, Nat.zero_add, List.getElem?_append_left hlt]
    exact hj
  | y :: l, k + 1, x, h => fun j u hj => by
    have ih := at_flat (f := f) (m := m) hm (l := l) (k := k) (x := x) (by simpa using h) j u hj
    have hy := hm y
    rw [List.flatMap_cons, List.getElem?_append_right (by rw [hy, Nat.add_mul]; omega), hy]
    rw [show (k + 1) * m + j - m = k * m + j by rw [Nat.add_mul]; omega]
    exact ih
theorem at_cell {cs us : List Value} {o j : Nat} {u : Value} (h : At cs o us) (hj : us[j]? = some u) : cs[o + j]? = some u := h j u hj
theorem at_cell0 {cs us : List Value} {o : Nat} {u : Value} (h : At cs o us) (hj : us[0]? = some u) : cs[o]? = some u := h 0 u hj
theorem at_part {cs us vs : List Value} {o j : Nat} (h : At cs o us) (hj : At us j vs) : At cs (o + j) vs := fun i u hi => by
  have := h (j + i) u (hj i u hi)
  rwa [← Nat.add_assoc] at this
theorem at_self {cs : List Value} : At cs 0 cs := fun j u h => by simpa using h
theorem all_step {p : Nat → Bool} {k : Nat} (h : (List.range k).all p = true) (hk : p k = true) : (List.range (k + 1)).all p = true := by simp [List.range_succ, h, hk]
theorem all_fail {p : Nat → Bool} {k n : Nat} (h : k < n) (hk : p k = false) : (List.range n).all p = false := by
  rw [List.all_eq_false]
  exact ⟨k, List.mem_range.2 h, by simp [hk]⟩
/-- element k -/
def ix {α : Type} [Inhabited α] (l : List α) (k : Nat) : α := l[k]!
theorem nthD {α : Type} [Inhabited α] {l : List α} {k : Nat} (h : (k : Int) < (l.length : Int)) : l[k]? = some (ix l k) := by
  have hk : k < l.length := Int.ofNat_lt.1 h
  rw [ix, List.getElem?_eq_getElem hk, getElem!_pos l k hk]
theorem nth {α : Type} (l : List α) (k : Nat) (h : k < l.length) : ∃ x, l[k]? = some x := ⟨l[k], List.getElem?_eq_getElem h⟩
/-- a part of a list is another one -/
def setAt (cs : List Value) (o : Nat) (us : List Value) : List Value := cs.take o ++ us ++ cs.drop (o + us.length)
/-- the first k elements of l, and zeros -/
def part {α : Type} (f : α → List Value) (zs : List Value) (l : List α) (k : Nat) : List Value := (l.take k).flatMap f ++ (List.replicate (l.length - k) zs).flatten
theorem part_zero {α : Type} (f : α → List Value) (zs : List Value) (l : List α) : part f zs l 0 = (List.replicate l.length zs).flatten := by simp [part]
theorem part_end {α : Type} (f : α → List Value) (zs : List Value) (l : List α) : part f zs l l.length = l.flatMap f := by simp [part]
theorem take_snoc {α : Type} {l : List α} {k : Nat} {x : α} (h : l[k]? = some x) : l.take (k + 1) = l.take k ++ [x] := by
  rw [List.take_add_one, h]; rfl
theorem part_step {α : Type} {f : α → List Value} {zs : List Value} {m : Nat} {l : List α} {k : Nat} {x : α} (hm : ∀ x, (f x).length = m) (hz : zs.length = m) (h : l[k]? = some x) : setAt (part f zs l k) (k * m) (f x) = part f zs l (k + 1) := by
  have hk : k < l.length := (List.getElem?_eq_some_iff.1 h).1
  have hl : ((l.take k).flatMap f).length = k * m := by rw [flat_len hm, List.length_take]; congr 1; omega
  obtain ⟨j, hj⟩ : ∃ j, l.length - k = j + 1 := ⟨l.length - k - 1, by omega⟩
  have hj2 : l.length - (k + 1) = j := by omega
  unfold setAt part
  rw [hj, hj2, take_snoc h, List.flatMap_append, List.replicate_succ, List.flatten_cons, ← hl, List.take_left, List.drop_append]
  simp [hm, hz]
section
variable {x y : Operand} {t t' e : TypeId} {v : Value} {cs : List Value} {m N o : Nat}
theorem F_len {ats : Array TypeId} (hx : ev E x = some v) (hd : Nat.blt d n = true) (ht : ats.toList = [t]) (hu : ∃ e m, IsSl P t e m) (hn : LenOf w0 L v N) (h : GoS P n w0 r Q ((d, .int .i64 (N : Int)) :: E) L l) : GoS P n w0 r Q E L (⟨0, none, some d, .call ⟨.builtin .len, #[x], ats⟩, ty⟩ :: l) := by
  obtain ⟨e, m, hu, _⟩ := hu
  intro a w he hs
  refine S_read hd (fun ρ w he hs w' _ => ?_) h a w he hs
  obtain ⟨a, c, rfl, _⟩ := hn w hs
  have hx := he _ _ hx
  have e : ats = #[t] := Array.ext' (by rw [ht])
  subst e
  simp [Stp.oper, execOp, resolve, invoke, builtin, hx, go_sem, Builtin.len_, run_underlying hu, goInt]
theorem F_idx {p : Int} {K : Nat} (hx : ev E x = some v) (hy : ev E y = some (.int .i64 p)) (hd : Nat.blt d n = true) (ht : IsSl P t e m) (hp : p = (K : Int)) (hn : LenOf w0 L v N) (hk : K < N) (h : GoS P n w0 r Q ((d, sp v (K * m)) :: E) L l) : GoS P n w0 r Q E L (⟨0, none, some d, .indexAddr t x y, ty⟩ :: l) := by
  obtain ⟨hu, hi⟩ := ht
  intro a w he hs
  refine S_read hd (fun ρ w he hs w' _ => ?_) h a w he hs
  obtain ⟨a, c, rfl, _, _, h0⟩ := hn w hs
  obtain ⟨b, o, rfl⟩ := h0 (by omega)
  have hx := he _ _ hx
  have hy := he _ _ hy
  subst hp
  cases hq : P.info? e with
  | none => simp [hq] at hi
  | some i =>
    have hsz : i.size = m := by simpa [hq] using hi
    have hlt : (K : Int) < (N : Int) := by omega
    simp [Stp.oper, execOp, hx, hy, go_sem, Instr.indexAt, asIntOf, run_underlying hu, sizeOf, typeInfo, hq, hsz, hk, sp]
theorem F_fieldS {i off : Nat} (hx : ev E x = some (sp v o)) (hd : Nat.blt d n = true) (hf : IsFl P t i off) (hn : LenOf w0 L v N) (h0 : 0 < N) (h : GoS P n w0 r Q ((d, sp v (o + off)) :: E) L l) : GoS P n w0 r Q E L (⟨0, none, some d, .fieldAddr t x i, ty⟩ :: l) := by
  obtain ⟨fs, f, hu, hi, rfl, hz⟩ := hf
  unfold nzB at hz
  cases hq : P.info? f.type with
  | none => simp [hq] at hz
  | some z =>
    simp only [hq, Bool.not_eq_true'] at hz
    intro a w he hs
    refine S_read hd (fun ρ w he hs w' _ => ?_) h a w he hs
    obtain ⟨a, c, rfl, _, _, hb⟩ := hn w hs
    obtain ⟨b, o', rfl⟩ := hb h0
    have hf' : fs[i]? = some f := by simpa using hi
    have hz2 : z.size ≠ 0 := fun e => by rw [e] at hz; simp at hz
    have hx := he _ _ hx
    rw [sp_lit] at hx
    simp [Stp.oper, execOp, hx, go_sem, Instr.fieldAt, run_underlying hu, hf', fieldPlace, sizeOf, typeInfo, hq, hz2, Addr.add, sp_lit, Nat.add_assoc]
theorem F_loadS1 {u : Value} (hx : ev E x = some (sp v o)) (hd : Nat.blt d n = true) (ht : IsSc P t) (hr : Rd w0 L r v m N cs) (hv : cs[o]? = some u) (h : GoS P n w0 r Q ((d, u) :: E) L l) : GoS P n w0 r Q E L (⟨0, none, some d, .load t x, ty⟩ :: l) := by
  obtain ⟨dT, hu, hs', _⟩ := ht
  intro a w he hs
  refine S_read hd (fun ρ w he hs w' hR => ?_) h a w he hs
  obtain ⟨b, o', c, rfl, hc⟩ := (hr w w' hs hR).2.2 o u hv
  have hx := he _ _ hx
  rw [sp_lit] at hx
  simp [Stp.oper, execOp, hx, Instr.loadAt, Instr.sureAddr, run_load1 hu hs' hc]
theorem F_loadSN {us : List Value} (hx : ev E x = some (sp v o)) (hd : Nat.blt d n = true) (ht : IsRw P t m) (hr : Rd w0 L r v t' N cs) (hv : At cs o us) (hl : us.length = m) (h0 : Nat.blt 0 m = true) (h : GoS P n w0 r Q ((d, .agg us.toArray) :: E) L l) : GoS P n w0 r Q E L (⟨0, none, some d, .load t x, ty⟩ :: l) := by
  obtain ⟨dT, hu, hs', hi⟩ := ht
  intro a w he hs
  refine S_read hd (fun ρ w he hs w' hR => ?_) h a w he hs
  have hm := (hr w w' hs hR).2.2
  have hpos : 0 < us.length := by rw [hl]; have := h0; simp [Nat.blt] at this; omega
  obtain ⟨b, o', c, rfl, _⟩ := hm (o + 0) us[0] (hv 0 _ (List.getElem?_eq_getElem hpos))
  have hx := he _ _ hx
  rw [sp_lit] at hx
  have hrun := run_loadVar_mid (P := P) w' b (o' + o) t us dT (fun j u hj => by
    obtain ⟨b2, o2, c2, e2, hc⟩ := hm (o + j) u (hv j u hj)
    cases e2
    rw [Nat.add_assoc]; exact hc) hu hs' (by rw [hi, hl])
  simp [Stp.oper, execOp, hx, Instr.loadAt, Instr.sureAddr, hrun]
theorem F_loadSP {us ws : List Value} {j q : Nat} (hx : ev E x = some (sp v (o + j))) (hd : Nat.blt d n = true) (ht : IsRw P t q) (hr : Rd w0 L r v m N cs) (hv : At cs o ws) (hw : Take ws j q us) (hl : us.length = q) (h0 : Nat.blt 0 q = true) (h : GoS P n w0 r Q ((d, .agg us.toArray) :: E) L l) : GoS P n w0 r Q E L (⟨0, none, some d, .load t x, ty⟩ :: l) :=
  F_loadSN hx hd ht hr (at_part hv fun i u hi => hw.at i u hi) hl h0 h
theorem own_set {w : World} {b c a : Nat} {cur : Array Value} {us : List Value} (hown : Row.In w ⟨.slice (some ⟨b, a, none⟩) N c, t, m, N, cs⟩) (hg : w.heap[b]? = some (.cells cur t (0, 0))) (hlen : o + us.length ≤ cs.length) :
    Row.In (w.setRow b (cur.toList.take (a + o) ++ us ++ cur.toList.drop (a + o + us.length)).toArray) ⟨.slice (some ⟨b, a, none⟩) N c, t, m, N, setAt cs o us⟩ := by
  obtain ⟨h0, h⟩ := hown
  dsimp only at h0 h
  rcases h with ⟨h, _⟩ | ⟨g, a', cap, cur', hv, hg', h1, h2, h3, h4⟩
  · cases h
  cases hv
  rw [hg] at hg'
  cases hg'
  have hsz : cur.toList.length = cur.size := by simp
  have hNm : N * m ≤ c * m := Nat.mul_le_mul_right _ h1
  have hcl : a + cs.length ≤ cur.toList.length := by rw [hsz, h0]; omega
  have hol : a + (o + us.length) ≤ cur.toList.length := by omega
  refine ⟨?_, .inr ⟨b, a, c, _, rfl, setRow_heap w b cur _ t _ hg, h1, h2, ?_, ?_⟩⟩
  · show (setAt cs o us).length = _
    unfold setAt
    simp only [List.length_append, List.length_take, List.length_drop]
    rw [← h0]; omega
  · simp only [List.size_toArray, List.length_append, List.length_take, List.length_drop]
    rw [hsz]
    have h3' : a + c * m ≤ cur.size := h3
    omega
  · show _ = setAt cs o us
    unfold setAt
    rw [← h4]
    apply List.ext_getElem?
    intro i
    simp only [List.getElem?_take, List.getElem?_drop, List.getElem?_append, List.length_append, List.length_take, List.length_drop]
    rw [h0] at hlen
    have e1 : min (a + o) cur.toList.length = a + o := by omega
    have e2 : min o (min (N * m) (cur.toList.length - a)) = o := by omega
    rw [e1, e2]
    (repeat' split) <;> first | rfl | (exfalso; omega) | (congr 1; omega) | skip
theorem F_storeS {u : Value} {us : List Value} (hx : ev E x = some (sp v o)) (hy : ev E y = some u) (hl : Upd L (.row v t' m N cs) (.row v t' m N (setAt cs o us)) L') (hu : u.cells = us.toArray) (hi : (P.info? t).map (·.size) = some us.length) (h1 : us.all (·.oneCell') = true) (h0 : Nat.blt 0 us.length = true)
    (hlen' : o + us.length ≤ N * m) (hk : okst r k (blkOf v)) (h : GoS P n w0 r Q E L' l) : GoS P n w0 r Q E L (⟨k + 1, none, none, .store t x y, ty⟩ :: l) := fun a w he hs => by
  refine S_act (fun a w he hs => ?_) a w he hs
  have ho : Row.In w ⟨v, t', m, N, cs⟩ := (hs.own _ hl.mem).2
  have hlen : o + us.length ≤ cs.length := by have e : cs.length = N * m := ho.1; omega
  have ho' := ho
  obtain ⟨hz, hh⟩ := ho
  dsimp only at hz hh
  have h0' : 0 < us.length := by have := h0; simp [Nat.blt] at this; omega
  rcases hh with ⟨rfl, rfl⟩ | ⟨g, a0, cap, cur, rfl, hg, g1, g2, g3, g4⟩
  · rw [hz, Nat.zero_mul] at hlen; omega
  have hx := he.eval hx
  have hy := he.eval hy
  rw [sp_lit] at hx
  have hNm : N * m ≤ cap * m := Nat.mul_le_mul_right _ g1
  have hcl : a0 + cs.length ≤ cur.size := by rw [hz]; omega
  have hst := run_storeCells_at (P := P) g (a0 + o) t' us 0 cur w hg (by omega) (fun v hv => (List.all_eq_true.1 h1) v hv)
  simp only [Nat.add_zero] at hst
  cases hq : P.info? t with
  | none => simp [hq] at hi
  | some i =>
    have hsz : i.size = us.length := by simpa [hq] using hi
    have hr : (execOp a.eval (Stp.oper ⟨k + 1, none, none, .store t x y, ty⟩)).run P w = .ok .skip (w.setRow g (cur.toList.take (a0 + o) ++ us ++ cur.toList.drop (a0 + o + us.length)).toArray) := by
      generalize a.eval = ρ at hx hy
      simp [Stp.oper, execOp, hx, hy, Instr.storeAt, Instr.sureAddr, storeVar, sizeOf, typeInfo, hq, hu, hsz, hst]
    unfold Oper.wp
    rw [hr]
    refine ⟨okst_rel (b := g) hk, h _ _ (he.none undef) ?_⟩
    have hX := ext_setRow (w := w) (b := g) (cur.toList.take (a0 + o) ++ us ++ cur.toList.drop (a0 + o + us.length)).toArray
    exact hs.turn hl hX.1 hX.2.1 hX.2.2.1 hX.2.2.2.1 (fun k hk hn => hX.2.2.2.2 k hk (by rw [List.mem_singleton]; intro e; exact hn (by subst e; rfl))) (own_set ho' hg hlen) (fun k hk => .inl hk)
theorem F_storeS1 {u : Value} (hx : ev E x = some (sp v o)) (hy : ev E y = some u) (hl : Upd L (.row v t' m N cs) (.row v t' m N (setAt cs o [u])) L') (ht : IsSc P t) (h1 : u.oneCell' = true)
    (hlen : o + 1 ≤ N * m) (hk : okst r k (blkOf v)) (h : GoS P n w0 r Q E L' l) : GoS P n w0 r Q E L (⟨k + 1, none, none, .store t x y, ty⟩ :: l) := by
  obtain ⟨dT, hu, hs, hi⟩ := ht
  exact F_storeS (us := [u]) hx hy hl (by cases u <;> simp_all [Value.oneCell', Value.cells]) hi (by simp [h1]) rfl hlen hk h
theorem F_storeSN {us : List Value} {q : Nat} (hx : ev E x = some (sp v o)) (hy : ev E y = some (.agg us.toArray)) (hl : Upd L (.row v t' m N cs) (.row v t' m N (setAt cs o us)) L') (ht : IsRw P t q) (hq : us.length = q) (h1 : us.all (·.oneCell') = true) (h0 : Nat.blt 0 us.length = true)
    (hlen : o + q ≤ N * m) (hk : okst r k (blkOf v)) (h : GoS P n w0 r Q E L' l) : GoS P n w0 r Q E L (⟨k + 1, none, none, .store t x y, ty⟩ :: l) := by
  obtain ⟨dT, hu, hs, hi⟩ := ht
  exact F_storeS hx hy hl rfl (by rw [hi, hq]) h1 h0 (by rw [hq]; exact hlen) hk h
/-- a slice that was made -/
theorem zeros_eq {zs : List Value} {z : Value} (hz : z.cells = zs.toArray) (hp : 0 < zs.length) (N : Nat) : (madeCells z.cells (N * zs.length)).toList = (List.replicate N zs).flatten := by
  apply List.ext_getElem?
  intro i
  unfold madeCells
  rw [hz]
  simp only [Array.toList_map, Array.toList_range, List.size_toArray]
  rw [List.getElem?_map]
  by_cases hi : i < N * zs.length
  · rw [List.getElem?_range hi]
    have hq : i / zs.length < N := Nat.div_lt_of_lt_mul (by rw [Nat.mul_comm]; exact hi)
    have hr : i % zs.length < zs.length := Nat.mod_lt _ hp
    have := at_flat (f := fun _ : Unit => zs) (m := zs.length) (fun _ => rfl) (l := List.replicate N ()) (k := i / zs.length) (x := ()) (by simp [hq]) (i % zs.length) zs[i % zs.length] (List.getElem?_eq_getElem hr)
    rw [show i / zs.length * zs.length + i % zs.length = i by rw [Nat.mul_comm]; exact Nat.div_add_mod i zs.length] at this
    rw [show (List.replicate N zs).flatten = (List.replicate N ()).flatMap (fun _ => zs) by rw [List.flatMap_def, List.map_replicate], this]
    simp [hr]
  · rw [List.getElem?_eq_none (by simpa using hi), List.getElem?_eq_none]
    · rfl
    · rw [show (List.replicate N zs).flatten = (List.replicate N ()).flatMap (fun _ => zs) by rw [List.flatMap_def, List.map_replicate], flat_len (m := zs.length) (fun _ => rfl)]
      simpa using hi
theorem grown_ext {w w' : World} (h : w.grownBy w' none) : Ext w w' := ⟨h.os, h.tape, h.output, h.size, fun k hk => h.block k hk (by simp)⟩
theorem ownsRow_ge {w w' : World} {s : Value} {N m : Nat} {xs : List Value} {e : TypeId} (h : w'.ownsRow w.heap.size e m s N xs) : ∀ k, Blk.foot (.row s e m N xs) k → w.heap.size ≤ k := fun k hk => (h.lt k hk).1
theorem ownsRow_row {w : World} {s : Value} {b N m : Nat} {xs : List Value} {e : TypeId} (h : w.ownsRow b e m s N xs) : Own w (.row s e m N xs) :=
  Row.In.of h
theorem F_make {bs : Nat} {zs : List Value} (hx : ev E x = some (.int .i64 (N : Int))) (hy : ev E y = some (.int .i64 (N : Int))) (hd : Nat.blt d n = true) (ht : IsEl P t e m bs zs) (hk : okk r k = true) (hb : bs * N ≤ 281474976710656) (hN : N ≤ maxLen)
    (h : ∀ s, GoS P n w0 r Q ((d, s) :: E) (.row s e m N (List.replicate N zs).flatten :: L) l) : GoS P n w0 r Q E L (⟨k + 1, none, some d, .makeSlice t x y, ty⟩ :: l) := fun a w he hs => by
  refine S_act (fun a w he hs => ?_) a w he hs
  obtain ⟨hu, hm, hzl, i, z, hi, hz, hsz, hby, hzc⟩ := ht
  have hx := he.eval hx
  have hy := he.eval hy
  obtain ⟨w', hr, ho, hg⟩ := run_make_full (P := P) w w.heap.size t e i z m hu hi hz hsz .i64 .i64 N (by rw [hby]; exact hb) hN (Nat.le_refl _)
  have hr' : (execOp a.eval (Stp.oper ⟨k + 1, none, some d, .makeSlice t x y, ty⟩)).run P w = .ok (.value (.slice (some ⟨w.heap.size, 0, none⟩) N N)) w' := by
    generalize a.eval = ρ at hx hy
    simp [Stp.oper, execOp, hx, hy, go_sem, hr]
  unfold Oper.wp
  rw [hr']
  rw [← hzl, zeros_eq hzc (by omega)] at ho
  refine ⟨rel_ext hk (grown_ext hg), h _ _ _ (he.put hd _) (hs.cons (grown_ext hg) ?_ ?_)⟩
  · rw [← hzl]; exact ownsRow_row ho
  · rw [← hzl]; exact ownsRow_ge ho
theorem F_make0 {c bs : Nat} {zs : List Value} (hx : ev E x = some (.int .i64 0)) (hy : ev E y = some (.int .i64 (c : Int))) (hd : Nat.blt d n = true) (ht : IsEl P t e m bs zs) (hk : okk r k = true) (hb : bs * c ≤ 281474976710656) (hc : c ≤ maxLen)
    (h : ∀ s, GoS P n w0 r Q ((d, s) :: E) (.row s e m 0 [] :: L) l) : GoS P n w0 r Q E L (⟨k + 1, none, some d, .makeSlice t x y, ty⟩ :: l) := fun a w he hs => by
  refine S_act (fun a w he hs => ?_) a w he hs
  obtain ⟨hu, hm, hzl, i, z, hi, hz, hsz, hby, hzc⟩ := ht
  have hx := he.eval hx
  have hy := he.eval hy
  obtain ⟨w', hr, ho, hg⟩ := run_make_own (P := P) w w.heap.size t e i z m hu hi hz hsz .i64 .i64 c (by rw [hby]; exact hb) hc (Nat.le_refl _)
  have hr' : (execOp a.eval (Stp.oper ⟨k + 1, none, some d, .makeSlice t x y, ty⟩)).run P w = .ok (.value (.slice (some ⟨w.heap.size, 0, none⟩) 0 c)) w' := by
    generalize a.eval = ρ at hx hy
    simp [Stp.oper, execOp, hx, hy, go_sem, hr]
  unfold Oper.wp
  rw [hr']
  exact ⟨rel_ext hk (grown_ext hg), h _ _ _ (he.put hd _) (hs.cons (grown_ext hg) (ownsRow_row ho) (ownsRow_ge ho))⟩
theorem src_of {P : Program} {w : World} {t e : TypeId} {i : TypeInfo} {u : Value} {m K : Nat} {us : List Value} (hmem : Mem w u m K us) (hu : P.underlying t = some (.slice e)) (hsz : i.size = m) (hm : 0 < m) (h1 : us.all (·.oneCell') = true) : Src P i.size t u K us w := by
  have hul := hmem.2.1
  obtain ⟨a', c', rfl, hkc, hcm, _⟩ := hmem.1
  by_cases hK : K = 0
  · subst hK
    have hus : us = [] := List.eq_nil_of_length_eq_zero (by simpa using hul)
    subst hus
    exact ⟨.inl ⟨e, hu⟩, fun _ => rfl, by cases a' <;> simp [Builtin.firstCells, loadCells, loadCellsFrom], by cases a' <;> simp [Builtin.firstCells, loadCells, loadCellsFrom], by simp, fun _ h => by cases h⟩
  · have hpos : 0 < us.length := by rw [hul]; exact Nat.mul_pos (by omega) hm
    obtain ⟨b, o, c, ev2, _⟩ := hmem.2.2 0 us[0] (List.getElem?_eq_getElem hpos)
    cases ev2
    refine Src.ofSlice w hu ⟨b, o, none⟩ K c' us (by rw [hsz]; exact hul) (fun j v hj => ?_) (fun q hq => (List.all_eq_true.1 h1) q hq)
    obtain ⟨b2, o2, c2, e2, hc⟩ := hmem.2.2 j v hj
    cases e2
    rw [Addr.add_mid]; exact hc
/-- there is no room: a new row -/
theorem append_grow_row {P : Program} {w : World} {t tx ty e : TypeId} {i : TypeInfo} {z u : Value} {zs cs us : List Value} {m bs N K cap : Nat} {base : Option Addr} (hu : P.underlying t = some (.slice e)) (hm : 0 < m) (hzl : zs.length = m) (hi : P.info? e = some i) (hz : i.zero = some z) (hsz : i.size = m) (hby : i.bytes = bs) (hzc : z.cells = zs.toArray)
    (hown0 : cs.length = N * m) (hul : us.length = K * m) (hsrc : Src P i.size tx u K us w) (hlt : cap < N + K) (hfc : (Builtin.firstCells i.size N (.slice base N cap)).run P w.drew = .ok cs.toArray w.drew) (h63 : N + K ≤ maxLen) (hb : (N + K) * bs ≤ 140737488355328) :
    ∃ v' w', (Builtin.append_ #[t, tx] ty #[.slice base N cap, u]).run P w = .ok v' w' ∧ Row.In w' ⟨v', e, m, N + K, cs ++ us⟩ ∧ Ext w w' ∧ ∀ k, v'.ownBlock = some k → w.heap.size ≤ k := by
  have hmz : z.cells.size = m := by rw [hzc]; simpa using hzl
  have hr0 := run_append_grow_src (P := P) w t tx ty e i z hu hi hz base N cap cs hfc u K us hsrc hlt (by simp only [maxLen] at h63; omega) (growslice_fits (by omega) (by rw [hby]; exact hb))
  have hle : N + K ≤ grownCap w (N + K) cap e ∧ grownCap w (N + K) cap e ≤ maxLen := ⟨grownCap_ge w _ _ _, grownCap_le_maxLen w _ _ _ h63⟩
  refine ⟨_, _, hr0, ⟨?_, .inr ⟨w.heap.size, 0, grownCap w (N + K) cap e, (cs ++ us).toArray ++ Builtin.zeroCells z.cells (grownCap w (N + K) cap e - (N + K)), rfl, ?_, hle.1, hle.2, ?_, ?_⟩⟩, (Ext.drew w).trans (Ext.alloc w.drew _), fun k hk => ?_⟩
  · show (cs ++ us).length = (N + K) * m
    rw [List.length_append, hown0, hul, Nat.add_mul]
  · have := heap_alloc_new w.drew (.cells ((cs ++ us).toArray ++ Builtin.zeroCells z.cells (grownCap w (N + K) cap e - (N + K))) e)
    simpa using this
  · show 0 + grownCap w (N + K) cap e * m ≤ _
    rw [Array.size_append, size_zeroCells, hmz, List.size_toArray, List.length_append, hown0, hul, ← Nat.add_mul, ← Nat.add_mul]
    rw [Nat.zero_add]
    exact Nat.mul_le_mul_right _ (by omega)
  · have hlen2 : (cs ++ us).length = (N + K) * m := by rw [List.length_append, hown0, hul, Nat.add_mul]
    rw [List.drop_zero, Array.toList_append, ← hlen2]
    exact List.take_left' rfl
  · have hk2 : w.heap.size = k := by simpa [Value.ownBlock] using hk
    omega
theorem run_append_room_own {P : Program} (w : World) (t tx ty e : TypeId) (i : TypeInfo) (ht : P.underlying t = some (.slice e)) (hi : P.info? e = some i) (g o sLen sCap : Nat) (cur : Array Value) (hg : w.heap[g]? = some (.cells cur e (0, 0))) (x : Value) (n : Nat) (news : List Value) (hs : Src P i.size tx x n news w)
    (hroom : sLen + n ≤ sCap) (hfit : o + sLen * i.size + news.length ≤ cur.size) :
    (Builtin.append_ #[t, tx] ty #[.slice (some ⟨g, o, none⟩) sLen sCap, x]).run P w = .ok (.slice (some ⟨g, o, none⟩) (sLen + n) sCap) (w.setRow g (cur.toList.take (o + sLen * i.size) ++ news ++ cur.toList.drop (o + sLen * i.size + news.length)).toArray) := by
  have hst := run_storeCells_at P g (o + sLen * i.size) e news 0 cur w hg hfit hs.one
  simp only [Nat.add_zero] at hst
  rcases hs.kind with ⟨e', hk⟩ | hk <;> simp [Builtin.append_, run_underlying ht, run_underlying hk, sizeOf, typeInfo, hi, hs.len, hroom, hs.cells, Addr.add_lit, hst]
/-- append: the slice is the call's own -/
theorem F_append {bs K : Nat} {zs : List Value} {u : Value} {us : List Value} {ats : Array TypeId} {L' : Value → List Blk} (hx : ev E x = some v) (hy : ev E y = some u) (hd : Nat.blt d n = true) (ha : ats.toList = [t, t]) (ht : IsEl P t e m bs zs) (hl : ∀ s, Upd L (.row v e m N cs) (.row s e m (N + K) (cs ++ us)) (L' s)) (hr : Rd w0 L none u m K us) (h1 : us.all (·.oneCell') = true)
    (hk : okst r k (blkOf v)) (h63 : N + K ≤ maxLen) (hb : (N + K) * bs ≤ 140737488355328) (h : ∀ s, GoS P n w0 r Q ((d, s) :: E) (L' s) l) : GoS P n w0 r Q E L (⟨k + 1, none, some d, .call ⟨.builtin .append, #[x, y], ats⟩, ty⟩ :: l) := fun a w he hs => by
  refine S_act (fun a w he hs => ?_) a w he hs
  obtain ⟨hu, hm, hzl, i, z, hi, hz, hsz, hby, hzc⟩ := ht
  have hx := he.eval hx
  have hy := he.eval hy
  have e2 : ats = #[t, t] := Array.ext' (by rw [ha])
  subst e2
  have hmem := hr w w hs rfl
  have hown : Row.In w ⟨v, e, m, N, cs⟩ := (hs.own _ (hl v).mem).2
  have hfoot := (hs.own _ (hl v).mem).1
  have key : ∃ v' w', (Builtin.append_ #[t, t] ty #[v, u]).run P w = .ok v' w' ∧ Row.In w' ⟨v', e, m, N + K, cs ++ us⟩ ∧ w.grownBy w' v.ownBlock ∧ (∀ k, v'.ownBlock = some k → v.ownBlock = some k ∨ w.heap.size ≤ k) := by
    have hown0 : cs.length = N * m := hown.1
    have hul := hmem.2.1
    have hmz : z.cells.size = m := by rw [hzc]; simpa using hzl
    have hone : ∀ q ∈ us, q.oneCell' = true := fun q hq => (List.all_eq_true.1 h1) q hq
    have hsrc : Src P i.size t u K us w := src_of hmem hu hsz hm h1
    have hgrow : ∀ (base : Option Addr) (cap : Nat), cap < N + K → (Builtin.firstCells i.size N (.slice base N cap)).run P w.drew = .ok cs.toArray w.drew → v = .slice base N cap → ∃ v' w', (Builtin.append_ #[t, t] ty #[v, u]).run P w = .ok v' w' ∧ Row.In w' ⟨v', e, m, N + K, cs ++ us⟩ ∧ w.grownBy w' v.ownBlock ∧ (∀ k, v'.ownBlock = some k → v.ownBlock = some k ∨ w.heap.size ≤ k) := by
      rintro base cap hlt hfc rfl
      obtain ⟨v', w', r1, r2, r3, r4⟩ := append_grow_row (ty := ty) hu hm hzl hi hz hsz hby hzc hown0 hul hsrc hlt hfc h63 hb
      exact ⟨v', w', r1, r2, ⟨r3.os, r3.tape, r3.output, r3.size, fun k hk _ => r3.block k hk⟩, fun k hk => .inr (r4 k hk)⟩
    rcases hown.2 with ⟨ev1, ev2⟩ | ⟨g, o, cap, cur, ev1, q1, q2, q3, q4, q5⟩
    · dsimp only at ev1 ev2
      subst ev1 ev2
      have hc0 : cs = [] := List.eq_nil_of_length_eq_zero (by simpa using hown0)
      subst hc0
      by_cases hK : K = 0
      · subst hK
        have hus : us = [] := List.eq_nil_of_length_eq_zero (by simpa using hul)
        subst hus
        refine ⟨.slice none 0 0, w, ?_, ⟨by simp, .inl ⟨rfl, rfl⟩⟩, ⟨rfl, rfl, rfl, Nat.le_refl _, fun _ _ _ => rfl⟩, fun k hk => .inl hk⟩
        obtain ⟨a', c', rfl, _⟩ := hmem.1
        cases a' <;> simp [Builtin.append_, run_underlying hu, sizeOf, typeInfo, hi, Builtin.lenOf, Builtin.firstCells, loadCells, loadCellsFrom]
      · exact hgrow none 0 (by omega) (by simp [run_firstCells_none]) rfl
    · dsimp only at ev1 q1 q2 q3 q4 q5
      by_cases hroom : N + K ≤ cap
      · subst ev1
        have hNK : (N + K) * m ≤ cap * m := Nat.mul_le_mul_right _ hroom
        have hNKe : (N + K) * m = N * m + us.length := by rw [hul, Nat.add_mul]
        have hcsz : cur.toList.length = cur.size := by simp
        have hr0 := run_append_room_own (P := P) w t t ty e i hu hi g o N cap cur q1 u K us hsrc hroom (by rw [hsz]; omega)
        rw [hsz] at hr0
        have hX := ext_setRow (w := w) (b := g) (cur.toList.take (o + N * m) ++ us ++ cur.toList.drop (o + N * m + us.length)).toArray
        refine ⟨_, _, hr0, ⟨?_, .inr ⟨g, o, cap, _, rfl, setRow_heap w g cur _ e _ q1, hroom, q3, ?_, ?_⟩⟩, ⟨hX.1, hX.2.1, hX.2.2.1, hX.2.2.2.1, fun k hk hn => hX.2.2.2.2 k hk (by rw [List.mem_singleton]; intro e1; subst e1; exact hn rfl)⟩, fun k hk => .inl hk⟩
        · show (cs ++ us).length = (N + K) * m
          rw [List.length_append, hown0, hul, Nat.add_mul]
        · simp only [List.size_toArray, List.length_append, List.length_take, List.length_drop]
          omega
        · show (List.drop o (_ ++ _ ++ _)).take ((N + K) * m) = cs ++ us
          have e1 : (cur.toList.take (o + N * m)).length = o + N * m := by rw [List.length_take]; omega
          rw [List.append_assoc, List.drop_append_of_le_length (by omega), List.drop_take, Nat.add_sub_cancel_left, q5, ← List.append_assoc, hNKe, ← hown0]
          exact List.take_left' (by rw [List.length_append])
      · refine hgrow (some ⟨g, o, none⟩) cap (by omega) ?_ ev1
        refine run_firstCells_some w.drew i.size N ⟨g, o, none⟩ N cap cs (by rw [hsz]; exact hown0) (fun j q hj => ?_)
        rw [Addr.add_mid]
        have hmm : Row.In w ⟨v, e, m, N, cs⟩ := hown
        obtain ⟨b2, o2, c2, e2, hc⟩ := (Row.In.mem hmm).2.2 j q hj
        rw [ev1] at e2
        cases e2
        simpa using hc
  obtain ⟨v', w', hrun, ho, hg, hf⟩ := key
  have hr' : (execOp a.eval (Stp.oper ⟨k + 1, none, some d, .call ⟨.builtin .append, #[x, y], #[t, t]⟩, ty⟩)).run P w = .ok (.value v') w' := by
    generalize a.eval = ρ at hx hy
    simp only [Stp.oper, execOp, resolve, invoke, builtin, Sem.run_bind, Sem.run_pure, Result.andThen_ok, List.map_toArray, List.map_cons, List.map_nil, hx, hy, hrun]
  unfold Oper.wp
  rw [hr']
  refine ⟨fun e0 => ?_, h _ _ _ (he.put hd _) (hs.turn (hl v') hg.os hg.tape hg.output hg.size (fun k hk hn => hg.block k hk (fun e => hn e.symm)) ho hf)⟩
  obtain ⟨xs, rfl, hb'⟩ := hk e0
  refine ⟨hg.os, hg.tape, hg.output, hg.size, fun k hk' hn => hg.block k hk' (fun e => hn ?_)⟩
  have : blkOf v = k := by
    cases v with
    | slice a' n' c' =>
      cases a' with
      | none => simp [Value.ownBlock] at e
      | some a' => simp [Value.ownBlock] at e; exact e.symm
    | _ => simp [Value.ownBlock] at e
  exact this ▸ hb'
/-- the elements of a slice literal, one behind the other -/
inductive Dense (m : Nat) : Nat → List (Nat × Value) → List Value → Prop
  | nil {i : Nat} : Dense m i [] []
  | cons {i : Nat} {u : Value} {us vs : List Value} {ps : List (Nat × Value)} (h1 : u.cells = us.toArray) (h2 : us.length = m) (h3 : Dense m (i + 1) ps vs) : Dense m i ((i, u) :: ps) (us ++ vs)
theorem Dense.len {i : Nat} {ps : List (Nat × Value)} {us : List Value} (h : Dense m i ps us) : us.length = ps.length * m := by
  induction h with
  | nil => simp
  | cons h1 h2 h3 ih => rw [List.length_append, h2, ih, List.length_cons, Nat.add_mul]; omega
theorem fill_den : ∀ {ps : List (Nat × Value)} {i : Nat} {us : List Value} (c : Array Value), Dense m i ps us → i * m + us.length ≤ c.size → Instr.fill (fun i => some (i * m, m)) c ps = some (c.toList.take (i * m) ++ us ++ c.toList.drop (i * m + us.length)).toArray
  | [], i, us, c, h, _ => by cases h; simp [Instr.fill]
  | p :: ps, i, us, c, h, hc => by
    cases h with
    | cons h1 h2 h3 =>
      rename_i u us vs
      rw [List.length_append] at hc
      unfold Instr.fill
      simp only
      have hsz : u.cells.size = m := by rw [h1]; simpa using h2
      have hcond : ¬ (u.cells.size ≠ m ∨ i * m + u.cells.size > c.size) := by omega
      rw [if_neg (by simpa using hcond)]
      have e1 : (u.cells.zipIdx.foldl (fun cs (x : Value × Nat) => cs.setIfInBounds (i * m + x.2) x.1) c) = (c.toList.take (i * m) ++ us ++ c.toList.drop (i * m + us.length)).toArray := by
        apply Array.ext'
        have := fold_seg (i * m) us 0 c (by omega)
        rw [h1]
        simpa using this
      refine (congrArg (fun c => Instr.fill (fun i => some (i * m, m)) c ps) e1).trans ?_
      have hl1 : c.toList.length = c.size := by simp
      have ec : ((c.toList.take (i * m) ++ us ++ c.toList.drop (i * m + us.length)).toArray).size = c.size := by
        simp only [List.size_toArray, List.length_append, List.length_take, List.length_drop]; omega
      have hm1 : (i + 1) * m = i * m + us.length := by rw [h2, Nat.add_mul]; omega
      rw [fill_den (i := i + 1) (us := vs) _ h3 (by rw [ec, hm1]; omega)]
      congr 2
      rw [hm1]
      have hl2 : (c.toList.take (i * m) ++ us).length = i * m + us.length := by simp only [List.length_append, List.length_take]; omega
      have e3 : (c.toList.take (i * m) ++ us ++ c.toList.drop (i * m + us.length)).take (i * m + us.length) = c.toList.take (i * m) ++ us := by rw [← hl2]; exact List.take_left
      have e4 : (c.toList.take (i * m) ++ us ++ c.toList.drop (i * m + us.length)).drop (i * m + us.length + vs.length) = c.toList.drop (i * m + (us ++ vs).length) := by
        rw [List.drop_append, hl2, List.drop_eq_nil_of_le (by rw [hl2]; omega), List.nil_append, List.drop_drop, List.length_append]
        congr 1
        omega
      show List.take (i * m + us.length) (_ ++ _ ++ _) ++ vs ++ List.drop (i * m + us.length + vs.length) (_ ++ _ ++ _) = _
      rw [e3, e4, List.append_assoc (c.toList.take (i * m)) us vs]
theorem F_bs {bs len : Nat} {zs us : List Value} {parts : Array (Nat × Operand)} {ps : List (Nat × Value)} (hp : evp E parts.toList = some ps) (hd : Nat.blt d n = true) (ht : IsEl P t e m bs zs) (hk : okk r k = true) (hl : ps.length = len) (h0 : Nat.blt 0 len = true) (hsm : Nat.ble (len * m) 16777216 = true) (hden : Dense m 0 ps us)
    (h : ∀ s, GoS P n w0 r Q ((d, s) :: E) (.row s e m len us :: L) l) : GoS P n w0 r Q E L (⟨k + 1, none, some d, .buildSlice t len parts, ty⟩ :: l) := fun a w he hs => by
  refine S_act (fun a w he hs => ?_) a w he hs
  obtain ⟨hu, hm, hzl, i, z, hi, hz, hsz, hby, hzc⟩ := ht
  have h0' : 0 < len := by have := h0; simp [Nat.blt] at this; omega
  have hsm' := Nat.le_of_ble_eq_true hsm
  have hlen := hden.len
  rw [hl] at hlen
  have hpos : 0 < len * m := Nat.mul_pos h0' hm
  have hle : len ≤ len * m := Nat.le_mul_of_pos_right _ hm
  have hpe : (parts.map fun (i, x) => (i, a.eval x)).toList = ps := by
    rw [Array.toList_map]; exact evp_map (fun _ _ hx => he.eval hx) hp
  have hf := fill_den (m := m) ((Array.range (len * m)).map (z.cells[· % z.cells.size]!)) hden (by simp; omega)
  have hr := run_buildSlice (P := P) w t e len (parts.map fun (i, x) => (i, a.eval x)) us.toArray i z hu hi hz (by rw [hsz]; omega) (by rw [hsz]; omega) (by
    rw [hpe, hsz, hf]
    congr 2
    rw [Nat.zero_mul, List.take_zero, List.nil_append, Nat.zero_add, hlen, List.drop_eq_nil_of_le (by simp), List.append_nil])
  have hr' : (execOp a.eval (Stp.oper ⟨k + 1, none, some d, .buildSlice t len parts, ty⟩)).run P w = .ok (.value (.slice (some ⟨w.heap.size, 0, none⟩) len len)) (w.alloc (.cells us.toArray e)) := by
    simp only [Stp.oper, execOp, Sem.run_bind, hr, Result.andThen_ok]
    rfl
  unfold Oper.wp
  rw [hr']
  refine ⟨rel_ext hk (Ext.alloc w _), h _ _ _ (he.put hd _) (hs.cons (Ext.alloc w _) ?_ ?_)⟩
  · exact Row.In.of (b := 0) ⟨hlen, .inr ⟨_, _, _, rfl, Nat.zero_le _, heap_alloc_new w _, Nat.le_refl _, by simp only [maxLen]; omega, by simpa using hlen, by
      show List.take (len * m) us = us
      rw [← hlen, List.take_length]⟩⟩
  · intro k hk
    have hk2 : w.heap.size = k := by simpa [Blk.foot, Value.ownBlock] using hk
    omega
/-- how a call ends that hands back a slice of its own -/
def RetR (t : TypeId) (m n : Nat) (cs : List Value) (w : World) (e : Ending) (w' : World) : Prop := ∃ v, e = .returned v ∧ Ext w w' ∧ (∀ k, v.ownBlock = some k → w.heap.size ≤ k) ∧ Row.In w' ⟨v, t, m, n, cs⟩
theorem retR {v : Value} {t : TypeId} {m n n' : Nat} {cs cs' : List Value} (h : .row v t m n cs ∈ L) (e1 : n = n') (e2 : cs = cs') : ∀ w, St w0 w L → RetR t m n' cs' w0 (.returned v) w := fun _ hs => by
  subst e1 e2
  exact ⟨v, rfl, hs.ext, (hs.own _ h).1, (hs.own _ h).2⟩
theorem S_callR {t : TypeId} {m N : Nat} {cs : List Value} {f : FuncId} {xs : Array Operand} {ats : Array TypeId} {vs : List Value} (hk : okk r k = true) (hp : plainFn P f = true) (hv : evs E xs.toList = some vs) (hc : ∀ w, St w0 w L → Calls P f vs.toArray w (RetR t m N cs w))
    (hd : Nat.blt d n = true) (h : ∀ s, GoS P n w0 r Q ((d, s) :: E) (.row s t m N cs :: L) l) : GoS P n w0 r Q E L (⟨k + 1, none, some d, .call ⟨.value (.func f), xs, ats⟩, ty⟩ :: l) :=
  S_act fun a w he hs => by
    unfold Oper.wp
    rw [run_call hp (evs_map (fun _ _ hx => he.eval hx) hv)]
    refine (hc w hs).mono fun e w' hR => ?_
    obtain ⟨s, rfl, hext, hn, ho⟩ := hR
    exact ⟨rel_ext hk hext, h s _ _ (he.put hd _) (hs.cons hext ho hn)⟩
theorem isEl {bs : Nat} {zs : List Value} (hu : P.underlying t = some (.slice e)) (hi : (P.info? e).map (fun i => (i.size, i.bytes)) = some (m, bs)) (hz : zc P e = some zs) (h0 : Nat.blt 0 m = true) (hl : zs.length = m) : IsEl P t e m bs zs := by
  refine ⟨hu, by have := h0; simp [Nat.blt] at this; omega, hl, ?_⟩
  unfold zc at hz
  cases hq : P.info? e with
  | none => simp [hq] at hi
  | some i =>
    cases hzz : i.zero with
    | none => simp [hq, hzz] at hz
    | some z =>
      have hz' : z.cells.toList = zs := by simpa [hq, hzz] using hz
      have h2 : i.size = m ∧ i.bytes = bs := by simpa [hq] using hi
      exact ⟨i, z, rfl, hzz, h2.1, h2.2, by rw [← hz']⟩
/-- a row of which nothing is known to be there -/
theorem S_ghost (t : TypeId) (m : Nat) (h : GoS P n w0 r Q E (.row (.slice none 0 0) t m 0 [] :: L) l) : GoS P n w0 r Q E L l := fun a w he hs => h a w he (hs.cons (Ext.refl w) ⟨by simp, .inl ⟨rfl, rfl⟩⟩ (fun k hk => by cases hk))
theorem C_ghost {c : Code} (t : TypeId) (m : Nat) (h : GoC P n w0 Q E (.row (.slice none 0 0) t m 0 [] :: L) c) : GoC P n w0 Q E L c := fun a w he hs => h a w he (hs.cons (Ext.refl w) ⟨by simp, .inl ⟨rfl, rfl⟩⟩ (fun k hk => by cases hk))
end
end
end Go.Proofs.Ytodhjpnfokkfeaa

/- Groups of rows: what a value with slices inside it owns; calls that write into what the caller owns. -/
import Derived.Test.YtodhjpnfokkfeaaSymd
set_option linter.unusedSimpArgs false
set_option linter.unusedVariables false
namespace Go.Proofs.Ytodhjpnfokkfeaa
open Go Go.RowKit
/-! ### lists, up to order -/
inductive Pick {α : Type} : List α → α → List α → Prop
  | here {l : List α} {x : α} : Pick (x :: l) x l
  | there {l l' : List α} {x y : α} (h : Pick l x l') : Pick (y :: l) x (y :: l')
  | over {l l' m : List α} {x : α} (h : Pick l x l') : Pick (m ++ l) x (m ++ l')
  | last {m : List α} {x : α} : Pick (m ++ [x]) x m
inductive PickA {α : Type} : List α → List α → List α → Prop
  | here {l m : List α} : PickA (m ++ l) m l
  | all {m : List α} : PickA m m []
  | there {l l' m : List α} {y : α} (h : PickA l m l') : PickA (y :: l) m (y :: l')
  | over {l l' m k : List α} (h : PickA l m l') : PickA (k ++ l) m (k ++ l')
inductive Pull {α : Type} : List α → List α → List α → Prop
  | nil {l : List α} : Pull l [] l
  | cons {l l1 m r : List α} {x : α} (h : Pick l x l1) (k : Pull l1 m r) : Pull l (x :: m) r
  | app {l l1 m a r : List α} (h : PickA l a l1) (k : Pull l1 m r) : Pull l (a ++ m) r
theorem Pick.perm {α : Type} {l l' : List α} {x : α} (h : Pick l x l') : l.Perm (x :: l') := by
  induction h with
  | here => exact .refl _
  | there h ih => exact (ih.cons _).trans (.swap _ _ _)
  | over h ih => exact (ih.append_left _).trans List.perm_middle
  | last => exact List.perm_append_comm
theorem PickA.perm {α : Type} {l l' m : List α} (h : PickA l m l') : l.Perm (m ++ l') := by
  induction h with
  | here => exact .refl _
  | all => rw [List.append_nil]
  | there h ih => exact (ih.cons _).trans List.perm_middle.symm
  | over h ih =>
    refine (ih.append_left _).trans ?_
    rw [← List.append_assoc, ← List.append_assoc]
    exact List.perm_append_comm.append_right _
theorem Pull.perm {α : Type} {l m r : List α} (h : Pull l m r) : l.Perm (m ++ r) := by
  induction h with
  | nil => exact .refl _
  | cons h k ih => exact h.perm.trans (ih.cons _)
  | app h k ih => exact h.perm.trans (by rw [List.append_assoc]; exact ih.append_left _)
section
variable {w0 : World} {L L' : List Blk}
/-- what is owned so is owned so, too -/
def Ent (w0 : World) (L L' : List Blk) : Prop := ∀ w, St w0 w L → St w0 w L'
theorem Ent.refl : Ent w0 L L := fun _ h => h
theorem Ent.trans {L'' : List Blk} (h : Ent w0 L L') (k : Ent w0 L' L'') : Ent w0 L L'' := fun w hs => k w (h w hs)
theorem St.perm {w : World} (h : St w0 w L) (hp : L.Perm L') : St w0 w L' :=
  ⟨h.ext, fun x hx => h.own x (hp.mem_iff.2 hx), (hp.pairwise_iff (fun {x y} hxy k hk hk' => hxy k hk' hk)).1 h.nd⟩
theorem Ent.perm (h : L.Perm L') : Ent w0 L L' := fun _ hs => hs.perm h
theorem Ent.pull {R : List Blk} (h : Pull L L' R) : Ent w0 L L' := fun _ hs => (hs.perm h.perm).drop (List.sublist_append_left _ _)
/-! ### rows and groups of them -/
def Row.blk (x : Row) : Blk := .row x.v x.t x.m x.n x.cs
def Blk.rows : Blk → List Blk
  | .many l => l.map Row.blk
  | x => [x]
def flat : List Blk → List Blk
  | [] => []
  | x :: l => x.rows ++ flat l
theorem flat_many (l : List Row) (L : List Blk) : flat (.many l :: L) = l.map Row.blk ++ flat L := rfl
theorem flat_row (v : Value) (t : TypeId) (m n : Nat) (cs : List Value) (L : List Blk) : flat (.row v t m n cs :: L) = .row v t m n cs :: flat L := rfl
theorem flat_blk (b : Nat) (t : TypeId) (cs : List Value) (L : List Blk) : flat (.blk b t cs :: L) = .blk b t cs :: flat L := rfl
theorem flat_append (l k : List Blk) : flat (l ++ k) = flat l ++ flat k := by
  induction l with
  | nil => rfl
  | cons x l ih => rw [List.cons_append, flat, flat, ih, List.append_assoc]
theorem foot_blk {x : Row} {k : Nat} : x.blk.foot k ↔ x.v.ownBlock = some k := Iff.rfl
theorem own_blk {w : World} {x : Row} : Own w x.blk ↔ Row.In w x := Iff.rfl
theorem foot_many {l : List Row} {k : Nat} : Blk.foot (.many l) k ↔ ∃ x ∈ l.map Row.blk, x.foot k := by
  constructor
  · rintro ⟨x, hx, hk⟩; exact ⟨x.blk, List.mem_map.2 ⟨x, hx, rfl⟩, hk⟩
  · rintro ⟨x, hx, hk⟩
    obtain ⟨y, hy, rfl⟩ := List.mem_map.1 hx
    exact ⟨y, hy, hk⟩
theorem foot_rows (x : Blk) (k : Nat) : x.foot k ↔ ∃ y ∈ x.rows, y.foot k := by
  cases x with
  | many l => exact foot_many
  | _ => simp [Blk.rows]
theorem st_flat1 {w : World} {x : Blk} : St w0 w (x :: L) ↔ St w0 w (x.rows ++ L) := by
  cases x with
  | many l =>
    show St w0 w (.many l :: L) ↔ St w0 w (l.map Row.blk ++ L)
    constructor
    · intro h
      have hn := h.nd
      rw [List.pairwise_cons] at hn
      refine ⟨h.ext, fun y hy => ?_, ?_⟩
      · rcases List.mem_append.1 hy with hy | hy
        · obtain ⟨x, hx, rfl⟩ := List.mem_map.1 hy
          have ho := h.own (.many l) (by simp)
          exact ⟨fun k hk => ho.1 k ⟨x, hx, hk⟩, ho.2.1 x hx⟩
        · exact h.own y (by simp [hy])
      · rw [List.pairwise_append]
        refine ⟨?_, hn.2, fun x hx y hy k hk => ?_⟩
        · rw [List.pairwise_map]
          exact (h.own (.many l) (by simp)).2.2
        · obtain ⟨z, hz, rfl⟩ := List.mem_map.1 hx
          exact hn.1 y hy k ⟨z, hz, hk⟩
    · intro h
      have hn := h.nd
      rw [List.pairwise_append, List.pairwise_map] at hn
      have hm : ∀ x ∈ l, x.blk ∈ l.map Row.blk ++ L := fun x hx => List.mem_append_left _ (List.mem_map.2 ⟨x, hx, rfl⟩)
      refine ⟨h.ext, fun y hy => ?_, ?_⟩
      · rcases List.mem_cons.1 hy with rfl | hy
        · refine ⟨fun k hk => ?_, fun x hx => (h.own x.blk (hm x hx)).2, hn.1⟩
          obtain ⟨x, hx, hk⟩ := hk
          exact (h.own x.blk (hm x hx)).1 k hk
        · exact h.own y (by simp [hy])
      · rw [List.pairwise_cons]
        refine ⟨fun y hy k hk => ?_, hn.2.1⟩
        obtain ⟨x, hx, hk⟩ := hk
        exact hn.2.2 x.blk (List.mem_map.2 ⟨x, hx, rfl⟩) y hy k hk
  | _ => exact Iff.rfl
theorem st_comm {w : World} {a b : List Blk} : St w0 w (a ++ b) ↔ St w0 w (b ++ a) := ⟨fun h => h.perm List.perm_append_comm, fun h => h.perm List.perm_append_comm⟩
theorem st_flatA {w : World} : ∀ (l k : List Blk), St w0 w (l ++ k) ↔ St w0 w (flat l ++ k)
  | [], k => Iff.rfl
  | x :: l, k => by
    rw [List.cons_append, st_flat1, ← List.append_assoc, List.append_assoc, st_comm, List.append_assoc, st_flatA l, ← List.append_assoc, st_comm, ← List.append_assoc, flat]
theorem st_flat {w : World} : St w0 w L ↔ St w0 w (flat L) := by
  have := st_flatA (w0 := w0) (w := w) L []
  simpa using this
/-- what is owned, told in other groups; some of it forgotten -/
theorem Ent.flat {R : List Blk} (h : Pull (flat L) (flat L') R) : Ent w0 L L' := fun _ hs => st_flat.2 (Ent.pull h _ (st_flat.1 hs))
section
variable {P : Program} {n : Nat} {r : Option (List Nat)} {Q : Exit → Act → World → Prop} {E : List (Nat × Value)} {l : List Stp} {k d : Nat} {ty : TypeId}
theorem S_ent (L' : List Blk) (he : Ent w0 L L') (h : GoS P n w0 r Q E L' l) : GoS P n w0 r Q E L l := fun a w hE hs => h a w hE (he w hs)
theorem C_ent {c : Code} (L' : List Blk) (he : Ent w0 L L') (h : GoC P n w0 Q E L' c) : GoC P n w0 Q E L c := fun a w hE hs => h a w hE (he w hs)
theorem E_ent {e : Exit} (L' : List Blk) (he : Ent w0 L L') (h : GoE n w0 Q E L' e) : GoE n w0 Q E L e := fun a w hE hs => h a w hE (he w hs)
theorem E_roundS {α : Type} {Ei : α → List (Nat × Value)} {Li : α → List Blk} {φ : α → Prop} {μ : α → Nat} {q : Nat} (x' : α) (h1 : φ x') (h2 : μ x' < q) (hE : subE E (Ei x')) (hL : Ent w0 L (Li x')) :
    GoE n w0 (Exit.then (Rnd n w0 Ei Li φ μ q) Q) E L .normal := fun _ w he hs => ⟨x', h1, h2, he.sub (subE_get hE), hL w hs⟩
theorem retX {α : Type} {φ : α → Prop} {val : α → Value} {new : α → List Blk} {r : Value} (y : α) (h1 : φ y) (h2 : r = val y) (hL : Ent w0 L (new y)) : ∀ w, St w0 w L → RetX φ val new w0 (.returned r) w := fun w hs => by
  have hs' := hL w hs
  exact ⟨y, h1, by rw [h2], hs'.ext, hs'.own, hs'.nd⟩
/-- how a call ends that turns what its caller owns: new x instead of what it was handed; R stays -/
def RetS {α : Type} (w0 : World) (R : List Blk) (φ : α → Prop) (v : α → Value) (new : α → List Blk) (e : Ending) (w' : World) : Prop :=
  ∃ x, φ x ∧ e = .returned (v x) ∧ St w0 w' (new x ++ R)
theorem S_callS {α : Type} {φ : α → Prop} {v : α → Value} {new : α → List Blk} {Lc R : List Blk} {f : FuncId} {xs : Array Operand} {ats : Array TypeId} {vs : List Value} (hp : plainFn P f = true) (hv : evs E xs.toList = some vs) (hd : Nat.blt d n = true) (hc : ∀ w, St w0 w (Lc ++ R) → Calls P f vs.toArray w (RetS w0 R φ v new))
    (hpull : Pull L Lc R) (h : ∀ x, φ x → GoS P n w0 r Q ((d, v x) :: E) (new x ++ R) l) : GoS P n w0 r Q E L (⟨k + 2, none, some d, .call ⟨.value (.func f), xs, ats⟩, ty⟩ :: l) :=
  S_act fun a w he hs => by
    unfold Oper.wp
    rw [run_call hp (evs_map (fun _ _ hx => he.eval hx) hv)]
    refine (hc w (hs.perm hpull.perm)).mono fun e w' hR => ?_
    obtain ⟨x, hx, rfl, hs'⟩ := hR
    exact ⟨fun e => by omega, h x hx _ _ (he.put hd _) hs'⟩
/-- a function is entered with what its caller owns -/
theorem enterS {f : FuncId} {fn : Func} {c : Code} {vs : List Value} {w : World} {R : Ending → World → Prop} (hf : P.funcs[f]? = some fn) (hb : fn.body = some c) (hn : fn.ntmps = n) (hl : Nat.ble vs.length n = true) (hE : enumE 0 vs = E) (hs : St w0 w L)
    (h : GoC P n w0 (bodyPost P fn R) E L c) : Calls P f vs.toArray w R := by
  refine calls_of_wp hf hb (h _ w ⟨?_, rfl, fun t v ht => ?_⟩ hs)
  · have := Nat.le_of_ble_eq_true hl
    simp [hn]; omega
  · rw [← hE] at ht
    have := (get_enumE vs 0 t v ht).2
    simp only [Nat.sub_zero] at this
    rw [Array.getElem?_append]
    have hlt : t < vs.length := (List.getElem?_eq_some_iff.1 this).1
    rw [if_pos (by simpa using hlt)]
    simpa using this
theorem retS {α : Type} {φ : α → Prop} {val : α → Value} {new : α → List Blk} {R : List Blk} {r : Value} (y : α) (h1 : φ y) (h2 : r = val y) (hL : Ent w0 L (new y ++ R)) : ∀ w, St w0 w L → RetS w0 R φ val new (.returned r) w := fun w hs => ⟨y, h1, by rw [h2], hL w hs⟩
end
/-! ### what can be read -/
def Rds (w : World) (l : List Row) : Prop := ∀ x ∈ l, Mem w x.v x.m x.n x.cs
theorem Rds.ext {w w' : World} {l : List Row} (h : Rds w l) (k : Ext w w') : Rds w' l := fun x hx => (h x hx).ext k
theorem Rds.given {w : World} {l : List Row} (hs : St w0 w L) (h : Rds w0 l) : Rds w l := h.ext hs.ext
theorem Rds.many {w : World} {l : List Row} (hs : St w0 w L) (h : .many l ∈ L) : Rds w l := fun x hx => Row.In.mem ((hs.own _ h).2.1 x hx)
theorem Rds.row {w : World} {v : Value} {t : TypeId} {m n : Nat} {cs : List Value} (hs : St w0 w L) (h : .row v t m n cs ∈ L) (t' : TypeId) : Rds w [⟨v, t', m, n, cs⟩] := fun x hx => by
  rw [List.mem_singleton] at hx; subst hx
  exact Row.In.mem (hs.own _ h).2
theorem Rds.nil {w : World} : Rds w [] := fun x hx => by cases hx
theorem Rds.one {w : World} {v : Value} {t : TypeId} {m n : Nat} {cs : List Value} (h : Mem w v m n cs) : Rds w [⟨v, t, m, n, cs⟩] := fun x hx => by
  rw [List.mem_singleton] at hx; subst hx; exact h
theorem Rds.head {w : World} {v : Value} {t : TypeId} {m n : Nat} {cs : List Value} {l : List Row} (h : Rds w (⟨v, t, m, n, cs⟩ :: l)) : Mem w v m n cs := h ⟨v, t, m, n, cs⟩ (by simp)
theorem Rds.tail {w : World} {x : Row} {l : List Row} (h : Rds w (x :: l)) : Rds w l := fun y hy => h y (by simp [hy])
theorem Rds.cons {w : World} {v : Value} {t : TypeId} {m n : Nat} {cs : List Value} {l : List Row} (h : Mem w v m n cs) (k : Rds w l) : Rds w (⟨v, t, m, n, cs⟩ :: l) := fun y hy => by
  rcases List.mem_cons.1 hy with rfl | hy
  · exact h
  · exact k y hy
theorem Rds.append {w : World} {a b : List Row} : Rds w (a ++ b) ↔ Rds w a ∧ Rds w b := ⟨fun h => ⟨fun x hx => h x (List.mem_append_left _ hx), fun x hx => h x (List.mem_append_right _ hx)⟩, fun h x hx => by
  rcases List.mem_append.1 hx with hx | hx
  · exact h.1 x hx
  · exact h.2 x hx⟩
theorem Rds.flatMap {α : Type} {w : World} {f : α → List Row} {l : List α} : Rds w (l.flatMap f) ↔ ∀ a ∈ l, Rds w (f a) := ⟨fun h a ha x hx => h x (List.mem_flatMap.2 ⟨a, ha, hx⟩), fun h x hx => by
  obtain ⟨a, ha, hx⟩ := List.mem_flatMap.1 hx
  exact h a ha x hx⟩
theorem ix_mem {α : Type} [Inhabited α] {l : List α} {k : Nat} (h : k < l.length) : ix l k ∈ l := by
  rw [ix, getElem!_pos l k h]; exact List.getElem_mem h
/-! ### a slice of new elements, made one by one -/
/-- the elements that are there, and zeros up to n elements -/
def partD {α : Type} (f : α → List Value) (zs : List Value) (done : List α) (n : Nat) : List Value := done.flatMap f ++ (List.replicate (n - done.length) zs).flatten
theorem partD_zero {α : Type} (f : α → List Value) (zs : List Value) (n : Nat) : partD f zs [] n = (List.replicate n zs).flatten := by simp [partD]
theorem partD_end {α : Type} (f : α → List Value) (zs : List Value) (done : List α) (n : Nat) (h : done.length = n) : partD f zs done n = done.flatMap f := by simp [partD, h]
theorem partD_step {α : Type} {f : α → List Value} {zs : List Value} {m : Nat} {done : List α} {n k : Nat} (hm : ∀ x, (f x).length = m) (hz : zs.length = m) (hk : done.length = k) (h : k < n) (x : α) : setAt (partD f zs done n) (k * m) (f x) = partD f zs (done ++ [x]) n := by
  have hl : (done.flatMap f).length = k * m := by rw [flat_len hm, hk]
  obtain ⟨j, hj⟩ : ∃ j, n - done.length = j + 1 := ⟨n - done.length - 1, by omega⟩
  have hj2 : n - (done ++ [x]).length = j := by rw [List.length_append, List.length_singleton]; omega
  unfold setAt partD
  rw [hj, hj2, List.flatMap_append, List.replicate_succ, List.flatten_cons, ← hl, List.take_left, List.drop_append]
  simp [hm, hz]
/-! ### writing into one element of a row -/
theorem setAt_seg {A c c' B us : List Value} {a off : Nat} (hA : A.length = a) (h : SetSeg c off us c') : setAt (A ++ (c ++ B)) (a + off) us = A ++ (c' ++ B) := by
  obtain ⟨h1, rfl⟩ := h
  subst hA
  unfold setAt
  rw [List.take_append, List.take_of_length_le (Nat.le_add_right _ _), Nat.add_sub_cancel_left, List.take_append]
  rw [List.drop_append, List.drop_eq_nil_of_le (by omega), show A.length + off + us.length - A.length = off + us.length by omega, List.drop_append]
  rw [show off - c.length = 0 by omega, show off + us.length - c.length = 0 by omega]
  simp
theorem at_mid {A c B us : List Value} {a off : Nat} (hA : A.length = a) (h : At c off us) : At (A ++ (c ++ B)) (a + off) us := fun j u hj => by
  have hj' := h j u hj
  have hlt : off + j < c.length := (List.getElem?_eq_some_iff.1 hj').1
  subst hA
  rw [List.getElem?_append_right (by omega), show A.length + off + j - A.length = off + j by omega, List.getElem?_append_left hlt]
  exact hj'
end
/-- a fact that follows from what is owned -/
theorem S_fact {P : Program} {n : Nat} {w0 : World} {r : Option (List Nat)} {Q : Exit → Act → World → Prop} {E : List (Nat × Value)} {L : List Blk} {l : List Stp} {p : Prop} (hp : ∀ w, St w0 w L → p) (h : p → GoS P n w0 r Q E L l) : GoS P n w0 r Q E L l := fun a w he hs => h (hp w hs) a w he hs
theorem C_fact {P : Program} {n : Nat} {w0 : World} {Q : Exit → Act → World → Prop} {E : List (Nat × Value)} {L : List Blk} {c : Code} {p : Prop} (hp : ∀ w, St w0 w L → p) (h : p → GoC P n w0 Q E L c) : GoC P n w0 Q E L c := fun a w he hs => h (hp w hs) a w he hs
theorem IsN.one {v : Value} {n : Nat} (h : IsN v n) : v.oneCell' = true := by
  obtain ⟨a, c, rfl, _⟩ := h
  rfl
theorem Rds.one1 {w : World} {v : Value} {t : TypeId} {m n : Nat} {cs : List Value} {l : List Row} (h : Rds w (⟨v, t, m, n, cs⟩ :: l)) : v.oneCell' = true := h.head.1.one
theorem one_int (k : IntKind) (n : Int) : (Value.int k n).oneCell' = true := rfl
theorem one_bool (b : Bool) : (Value.bool b).oneCell' = true := rfl
theorem one_string (s : ByteArray) : (Value.string s).oneCell' = true := rfl
theorem one_slice (a : Option Addr) (n c : Nat) : (Value.slice a n c).oneCell' = true := rfl
theorem one_pointer (a : Option Addr) : (Value.pointer a).oneCell' = true := rfl
/-- a nil slice is a row of nothing -/
theorem Ent.ghost {w0 : World} {L : List Blk} (t : TypeId) (m : Nat) : Ent w0 L (.row (.slice none 0 0) t m 0 [] :: L) := fun w hs => hs.cons (Ext.refl w) ⟨by simp, .inl ⟨rfl, rfl⟩⟩ (fun k hk => by cases hk)
theorem all_flat {α : Type} {f : α → List Value} {l : List α} (h : ∀ a ∈ l, (f a).all (·.oneCell') = true) : (l.flatMap f).all (·.oneCell') = true := by
  rw [List.all_flatMap, List.all_eq_true]
  exact h
theorem row_one {w0 : World} {L : List Blk} {v : Value} {t : TypeId} {m n : Nat} {cs : List Value} (h : .row v t m n cs ∈ L) : ∀ w, St w0 w L → v.oneCell' = true := fun w hs => (Row.In.mem (hs.own _ h).2).1.one
theorem flat_nil : flat [] = [] := rfl
theorem Row.blk_mk (v : Value) (t : TypeId) (m n : Nat) (cs : List Value) : Row.blk ⟨v, t, m, n, cs⟩ = .row v t m n cs := rfl
theorem Pull.atom {α : Type} {l a r : List α} (h : PickA l a r) : Pull l a r := by
  have := Pull.app h (Pull.nil (l := r))
  rwa [List.append_nil] at this
theorem C_gnil {P : Program} {n : Nat} {w0 : World} {Q : Exit → Act → World → Prop} {E : List (Nat × Value)} {L : List Blk} {c : Code} (h : GoC P n w0 Q E (.many [] :: L) c) : GoC P n w0 Q E L c := C_ent _ (Ent.flat (by rw [flat_many]; exact Pull.nil (l := flat L) |> fun _ => (by simpa using Pull.atom (PickA.all (m := flat L))))) h
theorem sum_mem {l : List Nat} {a : Nat} (h : a ∈ l) : a ≤ l.sum := by
  induction l with
  | nil => cases h
  | cons b l ih =>
    rw [List.sum_cons]
    rcases List.mem_cons.1 h with rfl | h
    · omega
    · have := ih h; omega
/-! ### parts of slices -/
def subV (v : Value) (m lo hi : Nat) : Value :=
  match v with
  | .slice a _ c => sliced a lo hi c m
  | _ => v
theorem IsN.sub {v : Value} {n : Nat} (h : IsN v n) (m : Nat) {lo hi : Nat} (h1 : lo ≤ hi) (h2 : hi ≤ n) : IsN (subV v m lo hi) (hi - lo) := by
  obtain ⟨a, c, rfl, hc, hm, hb⟩ := h
  refine ⟨_, _, rfl, by omega, by omega, fun h0 => ?_⟩
  obtain ⟨b, o, rfl⟩ := hb (by omega)
  exact ⟨b, o + lo * m, by
    rw [if_neg (by omega)]
    show some (Addr.add _ _) = _
    unfold Addr.add
    by_cases h : lo * m = 0
    · simp [h]
    · simp [h]⟩
theorem Mem.sub {α : Type} {w : World} {v : Value} {m : Nat} {f : α → List Value} {l : List α} (h : Mem w v m l.length (l.flatMap f)) (hm : ∀ x, (f x).length = m) {lo hi : Nat} (h1 : lo ≤ hi) (h2 : hi ≤ l.length) : Mem w (subV v m lo hi) m ((l.drop lo).take (hi - lo)).length (((l.drop lo).take (hi - lo)).flatMap f) := by
  have hl : ((l.drop lo).take (hi - lo)).length = hi - lo := by rw [List.length_take, List.length_drop]; omega
  refine ⟨by rw [hl]; exact h.1.sub m h1 h2, flat_len hm _, fun j u hj => ?_⟩
  have hjl : j < (((l.drop lo).take (hi - lo)).flatMap f).length := (List.getElem?_eq_some_iff.1 hj).1
  rw [flat_len hm, hl] at hjl
  have hm0 : 0 < m := by
    rcases Nat.eq_zero_or_pos m with h0 | h0
    · subst h0; omega
    · exact h0
  have hu : (l.flatMap f)[lo * m + j]? = some u := by
    have e1 : l = l.take lo ++ l.drop lo := (List.take_append_drop lo l).symm
    have e2 : (l.take lo).length = lo := by rw [List.length_take]; omega
    have e3 : l.drop lo = (l.drop lo).take (hi - lo) ++ (l.drop lo).drop (hi - lo) := (List.take_append_drop _ _).symm
    rw [e1, List.flatMap_append, List.getElem?_append_right (by rw [flat_len hm, e2]; omega), flat_len hm, e2, show lo * m + j - lo * m = j by omega, e3, List.flatMap_append, List.getElem?_append_left (by rw [flat_len hm, hl]; omega)]
    exact hj
  obtain ⟨b, o, c, rfl, hc⟩ := h.2.2 _ u hu
  obtain ⟨a', c', e, hc', hmx, _⟩ := h.1
  cases e
  rw [hl]
  refine ⟨b, o + lo * m, c - lo, ?_, by rw [← hc]; congr 2; omega⟩
  have hlt : lo < l.length := by
    have : 0 < (hi - lo) * m := by omega
    rcases Nat.eq_zero_or_pos (hi - lo) with h0 | h0
    · rw [h0] at this; omega
    · omega
  show Value.slice (if c = lo then _ else _) _ _ = _
  rw [if_neg (by omega)]
  show Value.slice (some (Addr.add _ _)) _ _ = _
  unfold Addr.add
  by_cases h : lo * m = 0
  · simp [h]
  · simp [h]
section
variable {P : Program} {n : Nat} {w0 : World} {r : Option (List Nat)} {Q : Exit → Act → World → Prop} {E : List (Nat × Value)} {L L' : List Blk} {l : List Stp} {k d : Nat} {ty : TypeId} {x y z : Operand} {v : Value} {t e : TypeId} {m N : Nat}
theorem len_sub {lo hi : Nat} (h : LenOf w0 L v N) (h1 : lo ≤ hi) (h2 : hi ≤ N) : LenOf w0 L (subV v m lo hi) (hi - lo) := fun w hs => (h w hs).sub m h1 h2
theorem rd_sub {α : Type} {f : α → List Value} {q : List α} {lo hi : Nat} (h : Rd w0 L r v m q.length (q.flatMap f)) (hm : ∀ x, (f x).length = m) (h1 : lo ≤ hi) (h2 : hi ≤ q.length) : Rd w0 L r (subV v m lo hi) m ((q.drop lo).take (hi - lo)).length (((q.drop lo).take (hi - lo)).flatMap f) := fun w w' hs hR => (h w w' hs hR).sub hm h1 h2
theorem F_slice {lo hi : Option Operand} {LO HI : Nat} (hx : ev E x = some v) (hd : Nat.blt d n = true) (ht : IsSl P t e m) (hn : LenOf w0 L v N)
    (hlo : match lo with | none => LO = 0 | some o => ∃ kd p, ev E o = some (.int kd p) ∧ 0 ≤ p ∧ LO = p.toNat) (hhi : match hi with | none => HI = N | some o => ∃ kd p, ev E o = some (.int kd p) ∧ 0 ≤ p ∧ HI = p.toNat) (h1 : LO ≤ HI) (h2 : HI ≤ N)
    (h : GoS P n w0 r Q ((d, subV v m LO HI) :: E) L l) : GoS P n w0 r Q E L (⟨0, none, some d, .slice t x lo hi none, ty⟩ :: l) := by
  obtain ⟨hu, hi'⟩ := ht
  intro a w he hs
  refine S_read hd (fun ρ w he hs w' _ => ?_) h a w he hs
  obtain ⟨a, c, rfl, hc, _⟩ := hn w hs
  have hx := he _ _ hx
  have hu2 : P.underlying t = some (.slice (P.elem t)) := by rw [hu, show P.elem t = e by simp [Program.elem, hu]]
  have he2 : P.elem t = e := by simp [Program.elem, hu]
  have hsz : ∀ w, (sizeOf e).run P w = .ok m w := fun w => by
    cases hq : P.info? e with
    | none => simp [hq] at hi'
    | some i =>
      have : i.size = m := by simpa [hq] using hi'
      simp [sizeOf, typeInfo, hq, this]
  have key : (Instr.slice t (.slice a N c) (lo.map ρ) (hi.map ρ) none).run P w' = .ok (sliced a LO HI c m) w' := by
    cases lo with
    | none =>
      dsimp only at hlo
      subst hlo
      cases hi with
      | none =>
        dsimp only at hhi
        subst hhi
        rw [Option.map_none, run_slice_all w' t a _ c hu2, he2, hsz]; rfl
      | some oh =>
        obtain ⟨kd, p, hp, hp0, rfl⟩ := hhi
        rw [Option.map_none, Option.map_some, he _ _ hp, run_slice_h w' t a _ c hu2 kd p hp0 (by omega), he2, hsz]; rfl
    | some ol =>
      obtain ⟨kd, p, hp, hp0, rfl⟩ := hlo
      cases hi with
      | none =>
        dsimp only at hhi
        subst hhi
        rw [Option.map_some, Option.map_none, he _ _ hp, run_slice_l w' t a _ c hu2 kd p hp0 (by omega), he2, hsz]; rfl
      | some oh =>
        obtain ⟨kd2, q, hq, hq0, rfl⟩ := hhi
        rw [Option.map_some, Option.map_some, he _ _ hp, he _ _ hq, run_slice_lh w' t a _ c hu2 kd kd2 p q hp0 (by omega) (by omega), he2, hsz]; rfl
  have e1 := run_sliceAt_slice (P := P) w' t (.slice a N c) (lo.map ρ) (hi.map ρ) none hu2
  have e2 : (execOp ρ (Stp.oper ⟨0, none, some d, .slice t x lo hi none, ty⟩)) = (do pure (Next.value (← Instr.sliceAt t (ρ x) (lo.map ρ) (hi.map ρ) none))) := rfl
  rw [e2, hx, Sem.run_bind, e1, key]
  rfl
theorem S_min {p q : Int} {kd : IntKind} {ats : Array TypeId} (hx : ev E x = some (.int kd p)) (hy : ev E y = some (.int kd q)) (hd : Nat.blt d n = true) (h : GoS P n w0 r Q ((d, .int kd (min p q)) :: E) L l) : GoS P n w0 r Q E L (⟨0, none, some d, .call ⟨.builtin .min, #[x, y], ats⟩, ty⟩ :: l) :=
  S_read hd (fun ρ w he _ w' _ => by
    have hx := he _ _ hx
    have hy := he _ _ hy
    have e : min p q = if q < p then q else p := by omega
    simp [Stp.oper, execOp, resolve, invoke, builtin, hx, hy, run_min_int2, e]) h
theorem S_max {p q : Int} {kd : IntKind} {ats : Array TypeId} (hx : ev E x = some (.int kd p)) (hy : ev E y = some (.int kd q)) (hd : Nat.blt d n = true) (h : GoS P n w0 r Q ((d, .int kd (max p q)) :: E) L l) : GoS P n w0 r Q E L (⟨0, none, some d, .call ⟨.builtin .max, #[x, y], ats⟩, ty⟩ :: l) :=
  S_read hd (fun ρ w he _ w' _ => by
    have hx := he _ _ hx
    have hy := he _ _ hy
    have e : max p q = if p < q then q else p := by omega
    simp [Stp.oper, execOp, resolve, invoke, builtin, hx, hy, run_max_int2, e]) h
end
/-! ### numbers laid into what is owned, and found there again -/
def Held {α : Type} (h : α → Int → Prop) (mk : α → Nat) : List α → Int → Prop
  | [], _ => True
  | c :: cs, k => h c k ∧ Held h mk cs (k + (mk c : Nat))
theorem Held.snoc {α : Type} {h : α → Int → Prop} {mk : α → Nat} {c : α} : ∀ {l : List α} {k : Int}, Held h mk l k → h c (k + ((l.map mk).sum : Nat)) → Held h mk (l ++ [c]) k
  | [], k, _, hc => ⟨by simpa using hc, trivial⟩
  | a :: l, k, hl, hc => ⟨hl.1, Held.snoc hl.2 (by
      have e : k + (mk a : Int) + ((l.map mk).sum : Nat) = k + (((a :: l).map mk).sum : Nat) := by simp; omega
      rw [e]; exact hc)⟩
theorem mk_le_flat {α : Type} {mk : α → Nat} (h : ∀ a, mk a ≤ 64) : ∀ l : List α, (l.map mk).sum ≤ 64 * l.length
  | [] => by simp
  | a :: l => by have := mk_le_flat h l; have := h a; rw [List.map_cons, List.sum_cons, List.length_cons]; omega
theorem mk_le_deep {α : Type} {mk wt : α → Nat} (h : ∀ a, mk a ≤ 64 + 64 * wt a) : ∀ l : List α, (l.map mk).sum ≤ 64 * (l.length + (l.map wt).sum)
  | [] => by simp
  | a :: l => by have := mk_le_deep h l; have := h a; simp only [List.map_cons, List.sum_cons, List.length_cons]; omega
def pre {α : Type} (mk : α → Nat) (l : List α) (i : Nat) : Nat := ((l.take i).map mk).sum
theorem pre_zero {α : Type} (mk : α → Nat) (l : List α) : pre mk l 0 = 0 := rfl
theorem pre_end {α : Type} (mk : α → Nat) (l : List α) : pre mk l l.length = (l.map mk).sum := by simp [pre]
theorem pre_succ {α : Type} {mk : α → Nat} {l : List α} {i : Nat} {c : α} (h : l[i]? = some c) : pre mk l (i + 1) = pre mk l i + mk c := by
  unfold pre
  rw [take_snoc h]; simp
theorem pre_le {α : Type} (mk : α → Nat) : ∀ (l : List α) (i : Nat), pre mk l i ≤ (l.map mk).sum
  | [], i => by simp [pre]
  | a :: l, 0 => by simp [pre]
  | a :: l, i + 1 => by have := pre_le mk l i; simp [pre] at this ⊢; omega
theorem Held.at {α : Type} {h : α → Int → Prop} {mk : α → Nat} : ∀ {l : List α} {k : Int} {i : Nat} {c : α}, Held h mk l k → l[i]? = some c → h c (k + (pre mk l i : Nat))
  | [], _, _, _, _, hc => by simp at hc
  | a :: l, k, 0, c, hl, hc => by simp at hc; subst hc; simpa [pre] using hl.1
  | a :: l, k, i + 1, c, hl, hc => by
    have := Held.at (i := i) hl.2 (by simpa using hc)
    have e : k + (mk a : Int) + (pre mk l i : Nat) = k + (pre mk (a :: l) (i + 1) : Nat) := by simp [pre]; omega
    rwa [e] at this
section
variable {P : Program} {n : Nat} {w0 : World} {r : Option (List Nat)} {Q : Exit → Act → World → Prop} {E : List (Nat × Value)} {L L' : List Blk} {l : List Stp} {k d : Nat} {ty : TypeId} {x y : Operand} {v : Value} {t t' : TypeId}
theorem S_conv {ta tb : TypeId} {p : Int} {k1 k2 : IntKind} {c : Bool} (hx : ev E x = some (.int k1 p)) (hd : Nat.blt d n = true) (ha : P.underlying ta = some (.int k1)) (hb : P.underlying tb = some (.int k2)) (h : GoS P n w0 r Q ((d, .int k2 (k2.wrap p)) :: E) L l) : GoS P n w0 r Q E L (⟨0, none, some d, .convert ta tb x, ty⟩ :: l) :=
  S_read hd (fun ρ w he _ w' _ => by
    have hx := he _ _ hx
    simp [Stp.oper, execOp, hx, convert, run_underlying ha, run_underlying hb, Conv.intToInt]) h
theorem S_conv8 {ta tb : TypeId} {p : Int} {k1 : IntKind} (hx : ev E x = some (.int k1 p)) (hd : Nat.blt d n = true) (ha : P.underlying ta = some (.int k1)) (hb : P.underlying tb = some (.int .u8)) (h : GoS P n w0 r Q ((d, .int .u8 (p % 256)) :: E) L l) : GoS P n w0 r Q E L (⟨0, none, some d, .convert ta tb x, ty⟩ :: l) :=
  S_conv (c := true) hx hd ha hb (by rw [IntKind.wrap_u8]; exact h)
theorem S_convW {ta tb : TypeId} {p : Int} {k1 : IntKind} (hx : ev E x = some (.int k1 p)) (hd : Nat.blt d n = true) (ha : P.underlying ta = some (.int k1)) (hb : P.underlying tb = some (.int .i64)) (hr : rng p) (h : GoS P n w0 r Q ((d, .int .i64 p) :: E) L l) : GoS P n w0 r Q E L (⟨0, none, some d, .convert ta tb x, ty⟩ :: l) :=
  S_conv (c := true) hx hd ha hb (by rw [IntWalk.i64_in _ hr]; exact h)
theorem F_storeM1 {A c c' B : List Value} {a off m N : Nat} {u : Value} (hx : ev E x = some (sp v (a + off))) (hy : ev E y = some u) (hl : Upd L (.row v t' m N (A ++ (c ++ B))) (.row v t' m N (A ++ (c' ++ B))) L') (hA : A.length = a) (ht : IsSc P t) (h1 : u.oneCell' = true) (hseg : SetSeg c off [u] c')
    (hlen : a + off + 1 ≤ N * m) (hk : okst r k (blkOf v)) (h : GoS P n w0 r Q E L' l) : GoS P n w0 r Q E L (⟨k + 1, none, none, .store t x y, ty⟩ :: l) :=
  F_storeS1 hx hy (by rw [setAt_seg hA hseg]; exact hl) ht h1 hlen hk h
theorem F_storeM0 {A c c' B : List Value} {a m N : Nat} {u : Value} (hx : ev E x = some (sp v a)) (hy : ev E y = some u) (hl : Upd L (.row v t' m N (A ++ (c ++ B))) (.row v t' m N (A ++ (c' ++ B))) L') (hA : A.length = a) (ht : IsSc P t) (h1 : u.oneCell' = true) (hseg : SetSeg c 0 [u] c')
    (hlen : a + 0 + 1 ≤ N * m) (hk : okst r k (blkOf v)) (h : GoS P n w0 r Q E L' l) : GoS P n w0 r Q E L (⟨k + 1, none, none, .store t x y, ty⟩ :: l) :=
  F_storeM1 (off := 0) hx hy hl hA ht h1 hseg hlen hk h
/-- an empty slice literal -/
theorem F_bs0 {bs m : Nat} {e : TypeId} {zs : List Value} {parts : Array (Nat × Operand)} (hd : Nat.blt d n = true) (hp : parts.toList = []) (ht : IsEl P t e m bs zs) (hk : okk r k = true) (h : ∀ s, GoS P n w0 r Q ((d, s) :: E) (.row s e m 0 [] :: L) l) : GoS P n w0 r Q E L (⟨k + 1, none, some d, .buildSlice t 0 parts, ty⟩ :: l) := fun a w he hs => by
  refine S_act (fun a w he hs => ?_) a w he hs
  obtain ⟨hu, hm, hzl, i, z, hi, hz, hsz, hby, hzc⟩ := ht
  have hp' : parts = #[] := Array.ext' (by rw [hp])
  subst hp'
  have hr' : (execOp a.eval (Stp.oper ⟨k + 1, none, some d, .buildSlice t 0 #[], ty⟩)).run P w = .ok (.value (.slice (some ⟨w.heap.size, 0, none⟩) 0 0)) (w.alloc (.cells #[] e)) := by
    simp [Stp.oper, execOp, Instr.buildSlice, run_underlying hu, sizeOf, typeInfo, hi, Instr.fill, newRow]
    exact congrArg (fun c => w.alloc (.cells c e)) (by apply Array.ext'; simp [Array.toList_range])
  unfold Oper.wp
  rw [hr']
  refine ⟨rel_ext hk (Ext.alloc w _), h _ _ _ (he.put hd _) (hs.cons (Ext.alloc w _) ?_ ?_)⟩
  · exact Row.In.of (b := 0) ⟨by simp, .inr ⟨_, _, _, rfl, Nat.zero_le _, heap_alloc_new w _, Nat.le_refl _, by simp [maxLen], by simp, by simp⟩⟩
  · intro k hk
    have hk2 : w.heap.size = k := by simpa [Blk.foot, Value.ownBlock] using hk
    omega
end
theorem at_mid0 {A c B : List Value} {a : Nat} (hA : A.length = a) : At (A ++ (c ++ B)) a c := by
  have := at_mid (B := B) hA (at_self (cs := c))
  rwa [Nat.add_zero] at this
end Go.Proofs.Ytodhjpnfokkfeaa

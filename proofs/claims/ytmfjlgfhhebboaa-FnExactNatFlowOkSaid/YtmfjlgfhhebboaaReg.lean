/- A region that draws its order of evaluation: one canonical order suffices, where what comes early only reads and each operation changes the world along a given preorder. Conditions: the Bool 'regOk' on the region's edges and the order. -/
import Derived.OrdersHeld
import Derived.WalkKit
import Derived.Deep.QuietTactic
import Derived.BigQuiet
namespace Go.Proofs.Ytmfjlgfhhebboaa
open Go
section
variable {P : Program} {ops : Array Oper} {Q : Exit → Act → World → Prop} {R : World → World → Prop}

/-- whatever order is picked from here on; behind each operation the world stands in R to what it was -/
def wpAnyE (P : Program) (ops : Array Oper) (Q : Exit → Act → World → Prop) (R : World → World → Prop) : Nat → Array Bool → Act → World → Prop
  | 0, listed, a, w => Region.ready .any ops listed = [] ∧ Q .normal a w
  | fuel + 1, listed, a, w =>
    (Region.ready .any ops listed = [] → Q .normal a w) ∧
    ∀ i ∈ Region.ready .any ops listed, wpOp P ops Q i (fun a' w' => R w w' ∧ wpAnyE P ops Q R fuel (listed.setIfInBounds i true) a' w') a w

theorem wpAny_of_E : ∀ (fuel : Nat) (listed : Array Bool) (a : Act) (w : World), wpAnyE P ops Q R fuel listed a w → wpAny P .any ops Q fuel listed a w
  | 0, _, _, _, h => h
  | fuel + 1, _, _, _, h => ⟨h.1, fun i hi => wpOp_mono (fun a' w' h' => wpAny_of_E fuel _ a' w' h'.2) (h.2 i hi)⟩

theorem yieldsTo {o : Oper} {v : Value} {a : Act} {w w' : World} (ht : ∀ a b c, R a b → R b c → R a c) (hr : R w w') (h : YieldsIf P ops (R w) o v a) : YieldsIf P ops (R w') o v a :=
  h.imp (fun ⟨hw, hv⟩ => ⟨hw, fun u hu => hv u (ht _ _ _ hr hu)⟩) id

theorem wpAnyE_first {i : Nat} {oi : Oper} {v : Value} (hrefl : ∀ w, R w w) (htr : ∀ a b c, R a b → R b c → R a c) (hi : ops[i]? = some oi)
    (hsel : ∀ (j : Nat) (o : Oper) cs b, ops[j]? = some o → o.op ≠ .select cs b)
    (hQ : ∀ c a w, Q (.panic c) (a.put oi.dst v) w → Q (.panic c) a w) :
    ∀ (fuel : Nat) (listed : Array Bool) (a : Act) (w : World),
      (∀ j oj, ops[j]? = some oj → j ≠ i → listed.getD j true = false → (∀ e ∈ oj.after, Region.binds .any e = true → e.on ≠ i) → oi.apart ops oj = true) →
      i ∈ Region.ready .any ops listed → YieldsIf P ops (R w) oi v a →
      wpAnyE P ops Q R fuel (listed.setIfInBounds i true) (a.put oi.dst v) w → wpAnyE P ops Q R (fuel + 1) listed a w := by
  intro fuel
  induction fuel with
  | zero =>
    intro listed a w _ hr hy H
    refine ⟨fun h => (by rw [h] at hr; cases hr), fun j hj => ?_⟩
    by_cases hji : j = i
    · subst hji; exact hy.wpOp hi (hrefl w) ⟨hrefl w, H⟩
    · have := ready_mono hj hji
      rw [H.1] at this
      cases this
  | succ fuel ih =>
    intro listed a w hfree hr hy H
    refine ⟨fun h => (by rw [h] at hr; cases hr), fun j hj => ?_⟩
    by_cases hji : j = i
    · subst hji; exact hy.wpOp hi (hrefl w) ⟨hrefl w, H⟩
    · have h1 := H.2 j (ready_mono hj hji)
      obtain ⟨hjun, oj, hoj, hall⟩ := mem_ready.1 hj
      have hnot : ∀ e ∈ oj.after, Region.binds .any e = true → e.on ≠ i := fun e he hb heq => by
        have h1 := hall e he hb
        have h0 := (mem_ready.1 hr).1
        rw [heq] at h1
        rcases Nat.lt_or_ge i listed.size with h' | h'
        · simp [h'] at h0 h1; rw [h0] at h1; cases h1
        · simp [Array.getElem?_eq_none h'] at h1
      have h2 := wpOp_putIf hoj (hfree j oj hoj hji hjun hnot) (fun cs b => hsel i oi cs b hi) (fun cs b => hsel j oj cs b hoj) hQ hy h1
      have hfree' : ∀ k ok, ops[k]? = some ok → k ≠ i → (listed.setIfInBounds j true).getD k true = false →
          (∀ e ∈ ok.after, Region.binds .any e = true → e.on ≠ i) → oi.apart ops ok = true := fun k ok hk hki hun hno => by
        refine hfree k ok hk hki ?_ hno
        by_cases hjk : j = k
        · subst hjk; exact hjun
        · rw [getD_set_ne true hjk] at hun; exact hun
      refine wpOp_mono (fun a' w' h3 => ⟨h3.2.1, ih (listed.setIfInBounds j true) a' w' hfree' (ready_mono hr (Ne.symm hji)) (yieldsTo htr h3.2.1 h3.1) ?_⟩) h2
      rw [Array.setIfInBounds_comm _ _ hji]
      exact h3.2.2

/-- the operations in one order; 'true' marks what may change the world -/
def wpT (P : Program) (ops : List Oper) (Q : Exit → Act → World → Prop) (R : World → World → Prop) : List (Nat × Bool) → Act → World → Prop
  | [], a, w => Q .normal a w
  | (i, true) :: rest, a, w => wpOp P ops.toArray Q i (fun a' w' => R w w' ∧ wpT P ops Q R rest a' w') a w
  | (i, false) :: rest, a, w => ∃ o v, ops[i]? = some o ∧ YieldsIf P ops.toArray (R w) o v a ∧ wpT P ops Q R rest (a.put o.dst v) w

/-- the order fits the region's edges -/
def ordOk (ops : Array Oper) : List (Nat × Bool) → Array Bool → Bool
  | [], listed => (Region.ready .any ops listed).isEmpty
  | (i, true) :: rest, listed => (Region.ready .any ops listed == [i]) && ordOk ops rest (listed.setIfInBounds i true)
  | (i, false) :: rest, listed => Region.free .any ops listed i && (Region.ready .any ops listed).contains i && ordOk ops rest (listed.setIfInBounds i true)

theorem wpAnyE_of_T {ops : List Oper} (hrefl : ∀ w, R w w) (htr : ∀ a b c, R a b → R b c → R a c) (hs : Region.noSelect ops.toArray = true) (hQ : ∀ c d v a w, Q (.panic c) (Act.put a d v) w → Q (.panic c) a w) :
    ∀ (l : List (Nat × Bool)) (listed : Array Bool) (a : Act) (w : World), ordOk ops.toArray l listed = true → wpT P ops Q R l a w → wpAnyE P ops.toArray Q R l.length listed a w
  | [], listed, a, w, hok, h => ⟨by simpa [ordOk] using hok, h⟩
  | (i, true) :: rest, listed, a, w, hok, h => by
    simp only [ordOk, Bool.and_eq_true, beq_iff_eq] at hok
    refine ⟨fun h0 => (by rw [hok.1] at h0; cases h0), fun j hj => ?_⟩
    rw [hok.1, List.mem_singleton] at hj
    subst hj
    exact wpOp_mono (fun a' w' h' => ⟨h'.1, wpAnyE_of_T hrefl htr hs hQ rest _ a' w' hok.2 h'.2⟩) h
  | (i, false) :: rest, listed, a, w, hok, h => by
    simp only [ordOk, Bool.and_eq_true] at hok
    obtain ⟨o, v, ho, hy, hrest⟩ := h
    have ho' : ops.toArray[i]? = some o := by simpa using ho
    exact wpAnyE_first hrefl htr ho' (Region.noSelect_spec hs) (fun c a w => hQ c o.dst v a w) rest.length listed a w (Region.free_spec ho' hok.1.1) (by simpa using hok.1.2) hy
      (wpAnyE_of_T hrefl htr hs hQ rest _ _ w hok.2 hrest)

/-- Q, but 'False' at a panic -/
def Calm (Q : Exit → Act → World → Prop) : Exit → Act → World → Prop
  | .panic _, _, _ => False
  | e, a, w => Q e a w
theorem Calm.imp : ∀ (e : Exit) (a : Act) (w : World), Calm Q e a w → Q e a w := fun e a w h => by
  cases e <;> first | exact h | exact (h : False).elim

def regOk (ops : Array Oper) (l : List (Nat × Bool)) : Bool := Region.noSelect ops && (l.length == ops.size) && ordOk ops l (Array.replicate ops.size false)

theorem wp_region_T {ops : List Oper} {id : Nat} {a : Act} {w : World} (R : World → World → Prop) (l : List (Nat × Bool)) (hm : P.follows .mixedOrders = true) (hrefl : ∀ w, R w w) (htr : ∀ a b c, R a b → R b c → R a c)
    (hok : regOk ops.toArray l = true) (h : wpT P ops (Calm Q) R l a w.drew) : (Code.region id ops.toArray true).wp P Q a w := by
  simp only [regOk, Bool.and_eq_true, beq_iff_eq] at hok
  refine Code.wp_mono Calm.imp (wp_region_any hm (wpAny_of_E (R := R) _ _ _ _ ?_))
  rw [← hok.1.2]
  refine wpAnyE_of_T hrefl htr hok.1.1 (fun _ _ _ _ _ h => h) l _ a _ ?_ h
  rw [hok.1.2]
  exact hok.2

/-- what was there is as it was -/
def Ext (w w' : World) : Prop := RowKit.Below w.heap.size w w'
theorem Ext.refl (w : World) : Ext w w := RowKit.Below.refl _ w
theorem Ext.trans {a b c : World} (h : Ext a b) (k : Ext b c) : Ext a c := RowKit.Below.trans h (RowKit.Below.mono k h.size)
theorem Ext.cell {w w' : World} (h : Ext w w') (p : Addr) (hp : (w.cell? p).isSome = true) : w'.cell? p = w.cell? p := by
  obtain ⟨u, hu⟩ := Option.isSome_iff_exists.1 hp
  exact RowKit.Below.cell h (World.block_lt_of_cell? w p hu)
theorem Ext.frozen {w w' : World} (h : Ext w w') (p : Addr) (hp : (w.cell? p).isSome = true) : w'.frozen? p = w.frozen? p := by
  obtain ⟨u, hu⟩ := Option.isSome_iff_exists.1 hp
  exact RowKit.Below.frozen h (World.block_lt_of_cell? w p hu)
/-- what a later world says of cells, in rules without a condition -/
theorem Ext.rules {w w' : World} (h : Ext w w') : ∃ (g : Addr → Option Value) (f : Addr → Bool), (∀ p, w'.cell? p = (w.cell? p).or (g p)) ∧ (∀ p, w'.frozen? p = if (w.cell? p).isSome then w.frozen? p else f p) ∧ w.heap.size ≤ w'.heap.size := by
  refine ⟨fun p => w'.cell? p, fun p => w'.frozen? p, fun p => ?_, fun p => ?_, h.size⟩
  · cases hp : w.cell? p with
    | none => simp
    | some v => rw [h.cell p (by simp [hp]), hp]; simp
  · split
    · rename_i hp; exact h.frozen p hp
    · rfl
theorem Ext.drew (w : World) : Ext w w.drew := (RowKit.Below.refl _ _).drew
theorem Ext.alloc (w : World) (o : Obj) : Ext w (w.alloc o) := (RowKit.Below.refl _ _).alloc (Nat.le_refl _) o

theorem Ext.drew' {w v : World} (h : Ext w v) : Ext w v.drew := h.trans (Ext.drew v)
theorem Ext.alloc' {w v : World} (h : Ext w v) (o : Obj) : Ext w (v.alloc o) := h.trans (Ext.alloc v o)
theorem Ext.drewN' {w v : World} (h : Ext w v) (n : Nat) : Ext w (v.drewN n) := h.trans ⟨rfl, rfl, rfl, Nat.le_refl _, fun _ _ => rfl⟩
theorem Ext.setCell' {w v : World} (h : Ext w v) {p : Addr} (hp : w.heap.size ≤ p.block) (u : Value) : Ext w (v.setCell p u) := RowKit.Below.setCell h hp u

theorem wp_region_E {ops : List Oper} {id : Nat} {a : Act} {w : World} (l : List (Nat × Bool)) (hm : P.follows .mixedOrders = true)
    (hok : regOk ops.toArray l = true) (h : wpT P ops (Calm Q) Ext l a w.drew) : (Code.region id ops.toArray true).wp P Q a w :=
  wp_region_T Ext l hm Ext.refl (fun _ _ _ => Ext.trans) hok h

/-- an operation whose value is a test: a comparison, a load of a bool -/
def isTest : Op → Bool
  | .binOp .eql _ _ _ _ | .binOp .neq _ _ _ _ | .binOp .lss _ _ _ _ | .binOp .leq _ _ _ _ | .binOp .gtr _ _ _ _ | .binOp .geq _ _ _ _ => true
  | .load 4 _ => true
  | _ => false

/-! steps -/
section
variable {ops : List Oper}
theorem T_done {a : Act} {w : World} (h : Q .normal a w) : wpT P ops Q R [] a w := h
/-- what reads: shown in every world that stands in R to the one at hand -/
theorem T_read {i : Nat} {rest : List (Nat × Bool)} {a : Act} {w : World} {o : Oper} {v : Value} (ho : ops[i]? = some o) (hw : Region.wanted o (yielded ops.toArray a.tmps) = true)
    (hv : ∀ w', R w w' → (execOp a.eval o).run P w' = .ok (.value v) w') (h : wpT P ops Q R rest (a.put o.dst v) w) : wpT P ops Q R ((i, false) :: rest) a w :=
  ⟨o, v, ho, .inl ⟨hw, hv⟩, h⟩
/-- what reads a bool: two ways -/
theorem T_readB {i : Nat} {rest : List (Nat × Bool)} {a : Act} {w : World} {o : Oper} {b : Bool} (ho : ops[i]? = some o) (_ : isTest o.op = true) (hw : Region.wanted o (yielded ops.toArray a.tmps) = true)
    (hv : ∀ w', R w w' → (execOp a.eval o).run P w' = .ok (.value (.bool b)) w') (ht : b = true → wpT P ops Q R rest (a.put o.dst (.bool true)) w) (hf : b = false → wpT P ops Q R rest (a.put o.dst (.bool false)) w) : wpT P ops Q R ((i, false) :: rest) a w := by
  refine ⟨o, .bool b, ho, .inl ⟨hw, hv⟩, ?_⟩
  cases b
  · exact hf rfl
  · exact ht rfl
/-- the guard says no -/
theorem T_off {i : Nat} {rest : List (Nat × Bool)} {a : Act} {w : World} {o : Oper} (ho : ops[i]? = some o) (hw : Region.wanted o (yielded ops.toArray a.tmps) = false)
    (h : wpT P ops Q R rest (a.put o.dst undef) w) : wpT P ops Q R ((i, false) :: rest) a w :=
  ⟨o, undef, ho, .inr ⟨hw, rfl⟩, h⟩
theorem T_offE {i : Nat} {rest : List (Nat × Bool)} {a : Act} {w : World} {o : Oper} (ho : ops[i]? = some o) (hw : Region.wanted o (yielded ops.toArray a.tmps) = false) (hrefl : R w w)
    (h : wpT P ops Q R rest (a.put o.dst undef) w) : wpT P ops Q R ((i, true) :: rest) a w := by
  have ho' : ops.toArray[i]? = some o := by simpa using ho
  unfold wpT wpOp
  simp only [ho', hw]
  exact ⟨hrefl, h⟩
/-- what may change the world -/
theorem T_eff {i : Nat} {rest : List (Nat × Bool)} {a : Act} {w : World} {o : Oper} (ho : ops[i]? = some o) (hw : Region.wanted o (yielded ops.toArray a.tmps) = true)
    (h : ∀ K : Act → World → Prop, (∀ a' w', R w w' → wpT P ops Q R rest a' w' → K a' w') → o.wp P a w K Q) : wpT P ops Q R ((i, true) :: rest) a w := by
  have ho' : ops.toArray[i]? = some o := by simpa using ho
  unfold wpT wpOp
  simp only [ho', hw, if_true]
  exact .inl (h _ fun _ _ hr ht => ⟨hr, ht⟩)
end
end
end Go.Proofs.Ytmfjlgfhhebboaa

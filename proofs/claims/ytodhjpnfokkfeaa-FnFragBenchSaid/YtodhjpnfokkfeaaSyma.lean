/- Regions as lists of steps. A region that draws its order: one order suffices, where what is early only reads, and what changes the world does so along a preorder, or stands behind all that reads. -/
import Derived.OrdersHeld
import Derived.WalkKit
set_option linter.unusedSimpArgs false
set_option linter.unusedVariables false
namespace Go.Proofs.Ytodhjpnfokkfeaa
open Go
/-- one operation: 0 reads, 1 changes the world along the preorder, 2 changes it freely; the guard by its slot -/
structure Stp where
  k : Nat
  g : Option (Nat × Bool)
  dst : Option Nat
  op : Op
  ty : TypeId
def Stp.oper (s : Stp) : Oper := ⟨s.dst, s.op, s.ty, "", #[], none⟩
def gOn (g : Option (Nat × Bool)) (a : Act) : Bool :=
  match g with
  | none => true
  | some (s, b) => match a.tmps[s]? with
    | some (.bool c) => c == b
    | _ => false
section
variable {P : Program} {Q : Exit → Act → World → Prop} {R : World → World → Prop}
def wpS (P : Program) (Q : Exit → Act → World → Prop) (R : World → World → Prop) : List Stp → Act → World → Prop
  | [], a, w => Q .normal a w
  | s :: rest, a, w =>
    (gOn s.g a = true ∧ s.k = 0 ∧ ∃ v, (∀ w', R w w' → (execOp a.eval s.oper).run P w' = .ok (.value v) w') ∧ wpS P Q R rest (a.put s.dst v) w) ∨
    (gOn s.g a = true ∧ s.k ≠ 0 ∧ s.oper.wp P a w (fun a' w' => (s.k = 1 → R w w') ∧ wpS P Q R rest a' w') Q) ∨
    (gOn s.g a = false ∧ wpS P Q R rest (a.put s.dst undef) w)

/-! ### from a region's operations to steps -/
def gSlot (ops : Array Oper) (o : Oper) : Option (Nat × Bool) :=
  match o.guard with
  | none => none
  | some (j, b) => match (ops[j]?).bind (·.dst) with
    | some t => some (t, b)
    | none => none
/-- the steps are those of the operations, in the order given -/
def mkS (ops : List Oper) : List (Nat × Nat) → List Stp
  | [] => []
  | (i, k) :: rest => match ops[i]? with
    | some ⟨dst, op, ty, pos, af, g⟩ => ⟨k, gSlot ops.toArray ⟨dst, op, ty, pos, af, g⟩, dst, op, ty⟩ :: mkS ops rest
    | none => mkS ops rest
theorem wanted_gOn {ops : Array Oper} {o : Oper} {a : Act} (hg : ∀ j b, o.guard = some (j, b) → ((ops[j]?).bind (·.dst)).isSome = true) :
    Region.wanted o (yielded ops a.tmps) = gOn (gSlot ops o) a := by
  unfold Region.wanted gSlot gOn
  cases h : o.guard with
  | none => rfl
  | some p =>
    obtain ⟨j, b⟩ := p
    have hs := hg j b h
    cases hd : (ops[j]?).bind (·.dst) with
    | none => rw [hd] at hs; cases hs
    | some t =>
      simp only [hd]
      unfold yielded
      rw [hd]
      simp only [Option.bind_some]
      cases hv : a.tmps[t]? with
      | none => simp
      | some v => cases v <;> simp
theorem execOp_oper (ρ : Operand → Value) (o : Oper) (g : Option (Nat × Bool)) (k : Nat) : execOp ρ (Stp.oper ⟨k, g, o.dst, o.op, o.type⟩) = execOp ρ o := rfl
theorem wp_oper (P : Program) (o : Oper) (g : Option (Nat × Bool)) (k : Nat) (a : Act) (w : World) (K : Act → World → Prop) (Q : Exit → Act → World → Prop) :
    (Stp.oper ⟨k, g, o.dst, o.op, o.type⟩).wp P a w K Q ↔ o.wp P a w K Q := by
  unfold Oper.wp
  rw [execOp_oper]
  generalize (execOp a.eval o).run P w = r
  cases r with
  | ok n w' => cases n <;> exact Iff.rfl
  | halt h w' => cases h <;> exact Iff.rfl
/-- every guard names a slot -/
def guardsOk (ops : Array Oper) : Bool := ops.all fun o => match o.guard with
  | none => true
  | some (j, _) => ((ops[j]?).bind (·.dst)).isSome
theorem guardsOk_spec {ops : Array Oper} (h : guardsOk ops = true) {i : Nat} {o : Oper} (ho : ops[i]? = some o) (j : Nat) (b : Bool) (hg : o.guard = some (j, b)) : ((ops[j]?).bind (·.dst)).isSome = true := by
  have := Array.all_eq_true_iff_forall_mem.1 h o (Array.mem_of_getElem? ho)
  simpa [hg] using this

/-- a step as the region's own operation -/
theorem wpOp_of_step {ops : List Oper} {i k : Nat} {o : Oper} {a : Act} {w : World} {rest : List Stp} {K : Act → World → Prop} (hgs : guardsOk ops.toArray = true) (ho : ops[i]? = some o) (hrefl : ∀ w, R w w)
    (hK : ∀ a' w', (k = 1 → R w w') → wpS P Q R rest a' w' → K a' w')
    (h : wpS P Q R (⟨k, gSlot ops.toArray o, o.dst, o.op, o.type⟩ :: rest) a w) : wpOp P ops.toArray Q i K a w := by
  have ho' : ops.toArray[i]? = some o := by simpa using ho
  have hw := wanted_gOn (a := a) (guardsOk_spec hgs ho')
  unfold wpOp
  simp only [ho', hw]
  rcases h with ⟨hg, _, v, hv, h⟩ | ⟨hg, _, h⟩ | ⟨hg, h⟩
  · simp only [hg, if_true]
    refine .inl ?_
    have := hv w (hrefl w)
    rw [execOp_oper] at this
    unfold Oper.wp
    rw [this]
    exact hK _ _ (fun _ => hrefl w) h
  · simp only [hg, if_true]
    exact .inl ((wp_oper P o _ k a w _ Q).1 (Oper.wp_mono (fun a' w' h' => hK a' w' h'.1 h'.2) h))
  · simp only [hg]
    exact hK _ _ (fun _ => hrefl w) h

/-! ### a region that does not draw -/
theorem wpOps_of_S {ops : List Oper} (hgs : guardsOk ops.toArray = true) (hrefl : ∀ w, R w w) : ∀ (l : List (Nat × Nat)) (a : Act) (w : World), (l.all fun p => (ops[p.1]?).isSome) = true → wpS P Q R (mkS ops l) a w → wpOps P ops.toArray Q (l.map (·.1)) a w
  | [], _, _, _, h => h
  | (i, k) :: rest, a, w, hl, h => by
    simp only [List.all_cons, Bool.and_eq_true] at hl
    obtain ⟨o, ho⟩ := Option.isSome_iff_exists.1 hl.1
    rw [List.map_cons, wpOps_cons]
    simp only [mkS, ho] at h
    exact wpOp_of_step hgs ho hrefl (fun a' w' _ h' => wpOps_of_S hgs hrefl rest a' w' hl.2 h') h
/-- the Bool that a plain region is asked -/
def plainOk (ops : List Oper) (l : List (Nat × Nat)) : Bool := guardsOk ops.toArray && (l.map (·.1) == List.range ops.length)
theorem wp_plain {ops : List Oper} {id : Nat} {a : Act} {w : World} {s : List Stp} (l : List (Nat × Nat)) (hok : plainOk ops l = true) (hs : mkS ops l = s) (h : wpS P Q Eq s a w) : (Code.region id ops.toArray false).wp P Q a w := by
  simp only [plainOk, Bool.and_eq_true, beq_iff_eq] at hok
  refine wp_region ?_
  have hsz : List.range ops.toArray.size = l.map (·.1) := by rw [hok.2]; simp
  rw [hsz]
  refine wpOps_of_S hok.1 (fun _ => rfl) l a w ?_ (hs ▸ h)
  rw [List.all_eq_true]
  intro p hp
  have : p.1 ∈ List.range ops.length := by rw [← hok.2]; exact List.mem_map_of_mem hp
  rw [List.mem_range] at this
  simp [this]

/-! ### a region that draws its order -/
/-- whatever order is picked from here on; behind each operation but the last ones the world stands in R to what it was -/
def wpAnyE (P : Program) (ops : Array Oper) (Q : Exit → Act → World → Prop) (R : World → World → Prop) (lax : List Nat) : Nat → Array Bool → Act → World → Prop
  | 0, listed, a, w => Region.ready .any ops listed = [] ∧ Q .normal a w
  | fuel + 1, listed, a, w =>
    (Region.ready .any ops listed = [] → Q .normal a w) ∧
    ∀ i ∈ Region.ready .any ops listed, wpOp P ops Q i (fun a' w' => (lax.contains i = false → R w w') ∧ wpAnyE P ops Q R lax fuel (listed.setIfInBounds i true) a' w') a w
theorem wpAny_of_E {ops : Array Oper} {lax : List Nat} : ∀ (fuel : Nat) (listed : Array Bool) (a : Act) (w : World), wpAnyE P ops Q R lax fuel listed a w → wpAny P .any ops Q fuel listed a w
  | 0, _, _, _, h => h
  | fuel + 1, _, _, _, h => ⟨h.1, fun i hi => wpOp_mono (fun a' w' h' => wpAny_of_E fuel _ a' w' h'.2) (h.2 i hi)⟩
theorem yieldsTo {ops : Array Oper} {o : Oper} {v : Value} {a : Act} {w w' : World} (ht : ∀ a b c, R a b → R b c → R a c) (hr : R w w') (h : YieldsIf P ops (R w) o v a) : YieldsIf P ops (R w') o v a :=
  h.imp (fun ⟨hw, hv⟩ => ⟨hw, fun u hu => hv u (ht _ _ _ hr hu)⟩) id
/-- an operation whose value hangs on no world -/
def pureB (P : Program) (o : Oper) : Bool :=
  match o.op with
  | .move _ => true
  | .assign _ => true
  | .extract _ _ => true
  | .fieldAddr t _ i => match P.underlying t with
    | some (.struct fs) => match fs.toList[i]? with
      | some f => match P.info? f.type with
        | some z => !(Nat.beq z.size 0)
        | none => false
      | none => false
    | _ => false
  | _ => false
theorem pure_run {o : Oper} (h : pureB P o = true) {ρ : Operand → Value} {v : Value} {w : World} (hr : (execOp ρ o).run P w = .ok (.value v) w) (w' : World) : (execOp ρ o).run P w' = .ok (.value v) w' := by
  obtain ⟨dst, op, ty, pos, af, g⟩ := o
  unfold pureB at h
  dsimp only at h
  split at h
  · simp only [execOp, Sem.run_pure, Result.ok.injEq, Next.value.injEq, and_true] at hr ⊢
    exact hr
  · simp only [execOp, Sem.run_pure, Result.ok.injEq, Next.value.injEq, and_true] at hr ⊢
    exact hr
  · rename_i x i
    cases hx : ρ x with
    | tuple vs =>
      cases hi : vs[i]? with
      | some u =>
        simp [execOp, hx, go_sem, Instr.extract, hi] at hr ⊢
        exact hr
      | none => simp [execOp, hx, go_sem, Instr.extract, hi] at hr
    | _ => simp [execOp, hx, go_sem, Instr.extract] at hr
  · rename_i t x i
    split at h
    · rename_i fs hu
      split at h
      · rename_i f hf
        split at h
        · rename_i z hz
          have hf' : fs[i]? = some f := by simpa using hf
          have hz2 : z.size ≠ 0 := fun e => by rw [e] at h; simp at h
          cases hx : ρ x with
          | pointer a =>
            cases a with
            | some a =>
              simp [execOp, hx, go_sem, Instr.fieldAt, run_underlying hu, hf', fieldPlace, sizeOf, typeInfo, hz, hz2] at hr ⊢
              exact hr
            | none => simp [execOp, hx, go_sem, Instr.fieldAt, Instr.sureAddr, run_underlying hu, hf'] at hr
          | _ => simp [execOp, hx, go_sem, Instr.fieldAt, Instr.sureAddr, run_underlying hu, hf'] at hr
        · cases h
      · cases h
    · cases h
  · cases h
/-- what is listed has all that it waits for -/
def Closed (ops : Array Oper) (listed : Array Bool) : Prop := ∀ k o, ops[k]? = some o → listed.getD k false = true → ∀ e ∈ o.after, Region.binds .any e = true → listed.getD e.on false = true
theorem closed_start (ops : Array Oper) (n : Nat) : Closed ops (Array.replicate n false) := fun k o _ h => by
  rcases Nat.lt_or_ge k n with h' | h' <;> simp [h'] at h
theorem getD_set_mono {listed : Array Bool} {i k : Nat} (h : listed.getD k false = true) : (listed.setIfInBounds i true).getD k false = true := by
  by_cases hik : i = k
  · subst hik
    have hlt : i < listed.size := by
      rcases Nat.lt_or_ge i listed.size with h' | h'
      · exact h'
      · simp [Array.getElem?_eq_none h'] at h
    simp [hlt]
  · rw [getD_set_ne false hik]; exact h
theorem closed_set {ops : Array Oper} {listed : Array Bool} {i : Nat} (h : Closed ops listed) (hi : i ∈ Region.ready .any ops listed) : Closed ops (listed.setIfInBounds i true) := fun k o hk hl e he hb => by
  by_cases hik : i = k
  · subst hik
    obtain ⟨_, oi, hoi, hall⟩ := mem_ready.1 hi
    rw [hk] at hoi
    cases hoi
    exact getD_set_mono (hall e he hb)
  · rw [getD_set_ne false hik] at hl
    exact getD_set_mono (h k o hk hl e he hb)
/-- i is waited for, be it by way of others -/
def reachB (ops : Array Oper) (i : Nat) : Nat → Nat → Bool
  | 0, _ => false
  | f + 1, j => match ops[j]? with
    | some o => o.after.any fun e => Region.binds .any e && (e.on == i || reachB ops i f e.on)
    | none => false
theorem reach_listed {ops : Array Oper} {listed : Array Bool} {i : Nat} (hc : Closed ops listed) : ∀ (f j : Nat) (o : Oper), ops[j]? = some o → reachB ops i f j = true → (∀ e ∈ o.after, Region.binds .any e = true → listed.getD e.on false = true) → listed.getD i false = true
  | 0, _, _, _, h, _ => by cases h
  | f + 1, j, o, ho, h, hall => by
    unfold reachB at h
    rw [ho] at h
    obtain ⟨e, he, hb⟩ := Array.any_eq_true'.1 h
    simp only [Bool.and_eq_true, Bool.or_eq_true, beq_iff_eq] at hb
    have h1 := hall e he hb.1
    rcases hb.2 with h2 | h2
    · rw [← h2]; exact h1
    · cases hq : ops[e.on]? with
      | none => cases f with
        | zero => cases h2
        | succ f => unfold reachB at h2; rw [hq] at h2; cases h2
      | some q => exact reach_listed hc f e.on q hq h2 (hc e.on q hq h1)
/-- what changes the world freely waits for all that reads the world, or is waited for -/
def laxOk (P : Program) (ops : Array Oper) (lax : List Nat) (frees : List Nat) : Bool :=
  lax.all fun j => frees.all fun i => match ops[j]?, ops[i]? with
    | some oj, some oi => oj.after.any (fun e => Region.binds .any e && e.on == i) || oi.after.any (fun e => Region.binds .any e && e.on == j) || pureB P oi || reachB ops i 20 j || reachB ops j 20 i
    | _, _ => true

theorem wpAnyE_first {ops : Array Oper} {lax frees : List Nat} {i : Nat} {oi : Oper} {v : Value} (hlax : laxOk P ops lax frees = true) (hrefl : ∀ w, R w w) (htr : ∀ a b c, R a b → R b c → R a c) (hi : ops[i]? = some oi) (hif : i ∈ frees)
    (hsel : ∀ (j : Nat) (o : Oper) cs b, ops[j]? = some o → o.op ≠ .select cs b)
    (hQ : ∀ c a w, Q (.panic c) (a.put oi.dst v) w → Q (.panic c) a w) :
    ∀ (fuel : Nat) (listed : Array Bool) (a : Act) (w : World),
      (∀ j oj, ops[j]? = some oj → j ≠ i → listed.getD j true = false → (∀ e ∈ oj.after, Region.binds .any e = true → e.on ≠ i) → oi.apart ops oj = true) →
      Closed ops listed → i ∈ Region.ready .any ops listed → YieldsIf P ops (R w) oi v a →
      wpAnyE P ops Q R lax fuel (listed.setIfInBounds i true) (a.put oi.dst v) w → wpAnyE P ops Q R lax (fuel + 1) listed a w := by
  intro fuel
  induction fuel with
  | zero =>
    intro listed a w _ _ hr hy H
    refine ⟨fun h => (by rw [h] at hr; cases hr), fun j hj => ?_⟩
    by_cases hji : j = i
    · subst hji; exact hy.wpOp hi (hrefl w) ⟨fun _ => hrefl w, H⟩
    · have := ready_mono hj hji
      rw [H.1] at this
      cases this
  | succ fuel ih =>
    intro listed a w hfree hcl hr hy H
    refine ⟨fun h => (by rw [h] at hr; cases hr), fun j hj => ?_⟩
    by_cases hji : j = i
    · subst hji; exact hy.wpOp hi (hrefl w) ⟨fun _ => hrefl w, H⟩
    · have h1 := H.2 j (ready_mono hj hji)
      obtain ⟨hjun, oj, hoj, hall⟩ := mem_ready.1 hj
      obtain ⟨hiun, oi', hoi', halli⟩ := mem_ready.1 hr
      rw [hi] at hoi'
      cases hoi'
      have nolist : ∀ {k : Nat}, listed.getD k true = false → listed.getD k false = true → False := fun {k} h0 h1 => by
        rcases Nat.lt_or_ge k listed.size with h' | h'
        · simp [h'] at h0 h1; rw [h0] at h1; cases h1
        · simp [Array.getElem?_eq_none h'] at h1
      have hnot : ∀ e ∈ oj.after, Region.binds .any e = true → e.on ≠ i := fun e he hb heq => nolist hiun (heq ▸ hall e he hb)
      have hjlax : lax.contains j = false ∨ pureB P oi = true := by
        cases hc : lax.contains j
        · exact .inl rfl
        · right
          have hm : j ∈ lax := by simpa using hc
          have h2 := List.all_eq_true.1 (List.all_eq_true.1 hlax j hm) i hif
          simp only [hoj, hi, Bool.or_eq_true] at h2
          rcases h2 with (((h2 | h2) | h2) | h2) | h2
          · exfalso
            obtain ⟨e, he, hb⟩ := Array.any_eq_true'.1 h2
            simp only [Bool.and_eq_true, beq_iff_eq] at hb
            exact hnot e he hb.1 hb.2
          · exfalso
            obtain ⟨e, he, hb⟩ := Array.any_eq_true'.1 h2
            simp only [Bool.and_eq_true, beq_iff_eq] at hb
            exact nolist hjun (hb.2 ▸ halli e he hb.1)
          · exact h2
          · exfalso
            exact nolist hiun (reach_listed hcl 20 j oj hoj h2 hall)
          · exfalso
            exact nolist hjun (reach_listed hcl 20 i oi hi h2 halli)
      have hyt : ∀ w' a', (lax.contains j = false → R w w') → YieldsIf P ops (R w) oi v a' → YieldsIf P ops (R w') oi v a' := fun w' a' hR hy => by
        rcases hjlax with h | h
        · exact yieldsTo htr (hR h) hy
        · exact hy.imp (fun ⟨hw, hv⟩ => ⟨hw, fun u _ => pure_run h (hv w (hrefl w)) u⟩) id
      have h2 := wpOp_putIf hoj (hfree j oj hoj hji hjun hnot) (fun cs b => hsel i oi cs b hi) (fun cs b => hsel j oj cs b hoj) hQ hy h1
      have hfree' : ∀ k ok, ops[k]? = some ok → k ≠ i → (listed.setIfInBounds j true).getD k true = false →
          (∀ e ∈ ok.after, Region.binds .any e = true → e.on ≠ i) → oi.apart ops ok = true := fun k ok hk hki hun hno => by
        refine hfree k ok hk hki ?_ hno
        by_cases hjk : j = k
        · subst hjk; exact hjun
        · rw [getD_set_ne true hjk] at hun; exact hun
      refine wpOp_mono (fun a' w' h3 => ⟨h3.2.1, ih (listed.setIfInBounds j true) a' w' hfree' (closed_set hcl hj) (ready_mono hr (Ne.symm hji)) (hyt w' a' h3.2.1 h3.1) ?_⟩) h2
      rw [Array.setIfInBounds_comm _ _ hji]
      exact h3.2.2

/-- the order fits the region's edges -/
def ordOk (ops : Array Oper) (frees : List Nat) (lax : List Nat) : List (Nat × Nat) → Array Bool → Bool
  | [], listed => (Region.ready .any ops listed).isEmpty
  | (i, k) :: rest, listed =>
    (match k with
     | 0 => Region.free .any ops listed i && (Region.ready .any ops listed).contains i && frees.contains i
     | 1 => (Region.ready .any ops listed == [i]) && !lax.contains i
     | _ => (Region.ready .any ops listed == [i]) && lax.contains i) && (ops[i]?).isSome && ordOk ops frees lax rest (listed.setIfInBounds i true)

theorem wpAnyE_of_S {ops : List Oper} {frees lax : List Nat} (hgs : guardsOk ops.toArray = true) (hlax : laxOk P ops.toArray lax frees = true) (hrefl : ∀ w, R w w) (htr : ∀ a b c, R a b → R b c → R a c) (hs : Region.noSelect ops.toArray = true)
    (hQ : ∀ c d v a w, Q (.panic c) (Act.put a d v) w → Q (.panic c) a w) :
    ∀ (l : List (Nat × Nat)) (listed : Array Bool) (a : Act) (w : World), Closed ops.toArray listed → ordOk ops.toArray frees lax l listed = true → wpS P Q R (mkS ops l) a w → wpAnyE P ops.toArray Q R lax l.length listed a w
  | [], listed, a, w, _, hok, h => ⟨by simpa [ordOk] using hok, h⟩
  | (i, k) :: rest, listed, a, w, hcl, hok, h => by
    simp only [ordOk, Bool.and_eq_true] at hok
    obtain ⟨⟨hk, hsome⟩, hrest⟩ := hok
    obtain ⟨o, ho'⟩ := Option.isSome_iff_exists.1 hsome
    have ho : ops[i]? = some o := by simpa using ho'
    simp only [mkS, ho] at h
    match k, hk with
    | 0, hk =>
      simp only [Bool.and_eq_true] at hk
      rcases h with ⟨hg, _, v, hv, h⟩ | ⟨_, h0, _⟩ | ⟨hg, h⟩
      · refine wpAnyE_first hlax hrefl htr ho' (by simpa using hk.2) (Region.noSelect_spec hs) (fun c a w => hQ c o.dst v a w) rest.length listed a w (Region.free_spec ho' hk.1.1) hcl (by simpa using hk.1.2) (Or.inl ⟨?_, fun w' hw' => ?_⟩)
          (wpAnyE_of_S hgs hlax hrefl htr hs hQ rest _ _ w (closed_set hcl (by simpa using hk.1.2)) hrest h)
        · rw [wanted_gOn (guardsOk_spec hgs ho')]; exact hg
        · have := hv w' hw'
          rwa [execOp_oper] at this
      · exact absurd rfl h0
      · refine wpAnyE_first hlax hrefl htr ho' (by simpa using hk.2) (Region.noSelect_spec hs) (fun c a w => hQ c o.dst undef a w) rest.length listed a w (Region.free_spec ho' hk.1.1) hcl (by simpa using hk.1.2) (Or.inr ⟨?_, rfl⟩)
          (wpAnyE_of_S hgs hlax hrefl htr hs hQ rest _ _ w (closed_set hcl (by simpa using hk.1.2)) hrest h)
        rw [wanted_gOn (guardsOk_spec hgs ho')]; exact hg
    | 1, hk =>
      simp only [Bool.and_eq_true, beq_iff_eq, Bool.not_eq_true'] at hk
      refine ⟨fun h0 => (by rw [hk.1] at h0; cases h0), fun j hj => ?_⟩
      have hcl' := closed_set hcl hj
      rw [hk.1, List.mem_singleton] at hj
      subst hj
      exact wpOp_of_step hgs ho hrefl (fun a' w' hr h' => ⟨fun _ => hr rfl, wpAnyE_of_S hgs hlax hrefl htr hs hQ rest _ a' w' hcl' hrest h'⟩) h
    | k + 2, hk =>
      simp only [Bool.and_eq_true, beq_iff_eq] at hk
      refine ⟨fun h0 => (by rw [hk.1] at h0; cases h0), fun j hj => ?_⟩
      have hcl' := closed_set hcl hj
      rw [hk.1, List.mem_singleton] at hj
      subst hj
      exact wpOp_of_step hgs ho hrefl (fun a' w' _ h' => ⟨fun hc => (by rw [hk.2] at hc; cases hc), wpAnyE_of_S hgs hlax hrefl htr hs hQ rest _ a' w' hcl' hrest h'⟩) h

/-- Q, but 'False' at a panic -/
def Calm (Q : Exit → Act → World → Prop) : Exit → Act → World → Prop
  | .panic _, _, _ => False
  | e, a, w => Q e a w
theorem Calm.imp : ∀ (e : Exit) (a : Act) (w : World), Calm Q e a w → Q e a w := fun e a w h => by
  cases e <;> first | exact h | exact (h : False).elim
def regOk (P : Program) (ops : List Oper) (l : List (Nat × Nat)) : Bool :=
  let fr := (l.filter (·.2 == 0)).map (·.1)
  let lx := (l.filter (fun p => decide (2 ≤ p.2))).map (·.1)
  guardsOk ops.toArray && Region.noSelect ops.toArray && (l.length == ops.length) && laxOk P ops.toArray lx fr && ordOk ops.toArray fr lx l (Array.replicate ops.length false)
theorem wp_drawn {ops : List Oper} {id : Nat} {a : Act} {w : World} {s : List Stp} (R : World → World → Prop) (l : List (Nat × Nat)) (hm : P.follows .mixedOrders = true) (hrefl : ∀ w, R w w) (htr : ∀ a b c, R a b → R b c → R a c)
    (hok : regOk P ops l = true) (hs : mkS ops l = s) (h : wpS P (Calm Q) R s a w.drew) : (Code.region id ops.toArray true).wp P Q a w := by
  simp only [regOk, Bool.and_eq_true, beq_iff_eq] at hok
  obtain ⟨⟨⟨⟨h1, h2⟩, h3⟩, h4⟩, h5⟩ := hok
  refine Code.wp_mono Calm.imp (wp_region_any hm (wpAny_of_E (R := R) (lax := (l.filter (fun p => decide (2 ≤ p.2))).map (·.1)) _ _ _ _ ?_))
  have hl : ops.toArray.size = l.length := by simp [h3]
  rw [hl]
  refine wpAnyE_of_S h1 h4 hrefl htr h2 (fun _ _ _ _ _ h => h) l _ a _ (closed_start _ _) ?_ (hs ▸ h)
  rw [h3]
  exact h5
end
end Go.Proofs.Ytodhjpnfokkfeaa

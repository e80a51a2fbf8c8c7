/- Functions as values, called by whoever holds them; texts. -/
import Derived.Test.YtodhjpnfokkfeaaSymf
set_option linter.unusedSimpArgs false
set_option linter.unusedVariables false
namespace Go.Proofs.Ytodhjpnfokkfeaa
open Go Go.RowKit
section
variable {P : Program} {n : Nat} {w0 : World} {r : Option (List Nat)} {Q : Exit → Act → World → Prop} {E E' : List (Nat × Value)} {L L' : List Blk} {l : List Stp} {k d : Nat} {op : Op} {ty : TypeId}
theorem S_makeFunc {f : Fn} {xs ys : Array Operand} {us vs : List Value} (hx : evs E xs.toList = some us) (hy : evs E ys.toList = some vs) (hd : Nat.blt d n = true) (h : GoS P n w0 r Q ((d, .func f us.toArray vs.toArray) :: E) L l) : GoS P n w0 r Q E L (⟨0, none, some d, .makeFunc f xs ys, ty⟩ :: l) :=
  S_read hd (fun ρ w he _ w' _ => by
    have e1 : xs.map ρ = us.toArray := by apply Array.ext'; rw [Array.toList_map]; exact evs_map he hx
    have e2 : ys.map ρ = vs.toArray := by apply Array.ext'; rw [Array.toList_map]; exact evs_map he hy
    simp [Stp.oper, execOp, e1, e2, Instr.makeFunc, go_sem]) h
/-- a step that does what another one does -/
theorem S_same {d' : Option Nat} {op' : Op} (he : ∀ ρ : Operand → Value, (∀ x v, ev E x = some v → ρ x = v) → execOp ρ (Stp.oper ⟨k, none, d', op, ty⟩) = execOp ρ (Stp.oper ⟨k, none, d', op', ty⟩)) (h : GoS P n w0 r Q E L (⟨k, none, d', op', ty⟩ :: l)) : GoS P n w0 r Q E L (⟨k, none, d', op, ty⟩ :: l) := fun a w hE hs => by
  have e := he a.eval (fun _ _ hx => hE.eval hx)
  have h1 := h a w hE hs
  unfold wpS at h1 ⊢
  unfold Oper.wp at h1 ⊢
  rw [e]
  exact h1
/-- a function's value is called: as the function itself, what it holds behind the arguments -/
theorem S_callC {d' : Option Nat} {z : Operand} {f : FuncId} {fs cs : List Value} {xs : Array Operand} {ats : Array TypeId} (hz : ev E z = some (.func (.func f) fs.toArray cs.toArray)) (h : GoS P n w0 r Q E L (⟨k, none, d', .call ⟨.value (.func f), (fs.map Operand.const ++ (xs.toList ++ cs.map Operand.const)).toArray, ats⟩, ty⟩ :: l)) : GoS P n w0 r Q E L (⟨k, none, d', .call ⟨.value z, xs, ats⟩, ty⟩ :: l) := by
  refine S_same (fun ρ he => ?_) h
  have hz := he _ _ hz
  have hc : ∀ vs : List Value, (vs.map Operand.const).map ρ = vs := fun vs => by
    rw [List.map_map]
    exact (List.map_congr_left fun v _ => he (.const v) v rfl).trans (List.map_id _)
  have hf : ρ (.func f) = .func (.func f) #[] #[] := he (.func f) _ rfl
  have e2 : fs.toArray ++ xs.map ρ ++ cs.toArray = #[] ++ ((fs.map Operand.const ++ (xs.toList ++ cs.map Operand.const)).toArray.map ρ) ++ #[] := by
    apply Array.ext'
    simp only [Array.toList_append, Array.toList_map, List.map_append, hc, List.nil_append, List.append_nil, List.append_assoc]
  simp only [Stp.oper, execOp, resolve, hz, hf, Deferred.ofValue, pure_bind, invoke, e2]
/-! ### what is read where another order would read otherwise -/
theorem S_readK {v : Value} (hd : Nat.blt d n = true) (hv : ∀ ρ w, (∀ x v, ev E x = some v → ρ x = v) → St w0 w L → (execOp ρ (Stp.oper ⟨k + 1, none, some d, op, ty⟩)).run P w = .ok (.value v) w) (h : GoS P n w0 r Q ((d, v) :: E) L l) : GoS P n w0 r Q E L (⟨k + 1, none, some d, op, ty⟩ :: l) :=
  S_act fun a w he hs => by
    unfold Oper.wp
    rw [hv a.eval w (fun _ _ hx => he.eval hx) hs]
    exact ⟨fun _ => Rel.refl r w, h _ w (he.put hd v) hs⟩
theorem F_load1K {x : Operand} {b o : Nat} {t t' : TypeId} {cs : List Value} {v : Value} (hx : ev E x = some (.pointer (some ⟨b, o, none⟩))) (hd : Nat.blt d n = true) (hL : (.blk b t' cs) ∈ L) (ht : IsSc P t) (hv : cs[o]? = some v)
    (h : GoS P n w0 r Q ((d, v) :: E) L l) : GoS P n w0 r Q E L (⟨k + 1, none, some d, .load t x, ty⟩ :: l) := by
  obtain ⟨dT, hu, hs, _⟩ := ht
  refine S_readK hd (fun ρ w he hst => ?_) h
  have hx := he _ _ hx
  have hc := (Own.cell (hst.own _ hL).2 o).trans hv
  have hr := run_load1 (P := P) hu hs hc
  simp [Stp.oper, execOp, hx, Instr.loadAt, Instr.sureAddr, hr]
/-- a reading step that has a place of its own in the order: by the rule for reading -/
def KQ (P : Program) (r : Option (List Nat)) (Q : Exit → Act → World → Prop) (l : List Stp) (e : Exit) (a : Act) (w : World) : Prop := e = .normal → wpS P Q (Rel r) l a w
def readOp : Op → Bool
  | .call c => match c.callee with
    | .value _ => false
    | _ => true
  | _ => true
theorem S_K (_hr : readOp op = true) (h : GoS P n w0 none (KQ P r Q l) E L [⟨0, none, some d, op, ty⟩]) : GoS P n w0 r Q E L (⟨k + 1, none, some d, op, ty⟩ :: l) := fun a w he hs => by
  rcases h a w he hs with ⟨h1, _, v, hv, h2⟩ | ⟨_, h0, _⟩ | ⟨h1, _⟩
  · refine .inr (.inl ⟨h1, by simp, ?_⟩)
    unfold Oper.wp
    have hv' := hv w rfl
    have e1 : execOp a.eval (Stp.oper ⟨k + 1, none, some d, op, ty⟩) = execOp a.eval (Stp.oper ⟨0, none, some d, op, ty⟩) := rfl
    rw [e1, hv']
    exact ⟨fun _ => Rel.refl r w, h2 rfl⟩
  · exact absurd rfl h0
  · cases h1
theorem E_K (h : GoS P n w0 r Q E L l) : GoE n w0 (KQ P r Q l) E L .normal := fun a w he hs _ => h a w he hs
/-! ### a region that writes into a row -/
theorem row_own {w : World} {v : Value} {t : TypeId} {m N : Nat} {cs : List Value} (h : Row.In w ⟨v, t, m, N, cs⟩) (h0 : 0 < N) : v.ownBlock = some (blkOf v) := by
  obtain ⟨_, h⟩ := h
  rcases h with ⟨_, h⟩ | ⟨g, o, cap, cur, hv, _⟩
  · dsimp only at h; omega
  · dsimp only at hv; rw [hv]; rfl
theorem C_drawnS {ops : List Oper} {i : Nat} {s : List Stp} {v1 : Value} (t1 : Nat) (h1 : get E t1 = some v1) (p : List (Nat × Nat)) (hm : P.follows .mixedOrders = true) (hok : regOk P ops p = true) (hs : mkS ops p = s) (h : GoS P n w0 (some [blkOf v1]) (Calm Q) E L s) : GoC P n w0 Q E L (.region i ops.toArray true) :=
  have _ := h1
  C_drawn p [blkOf v1] hm hok hs h
theorem apartS1 {b : Nat} {v : Value} {t t' : TypeId} {m N : Nat} {cs cs' : List Value} (h : .row v t' m N cs' ∈ L) (h0 : 0 < N) : Apart w0 (.blk b t cs :: L) b (blkOf v) := fun w hs e => by
  have hn := hs.nd
  rw [List.pairwise_cons] at hn
  exact hn.1 _ h b rfl (by rw [e]; exact row_own (hs.own _ (List.mem_cons_of_mem _ h)).2 h0)
theorem apartS2 {b : Nat} {v : Value} {t t' : TypeId} {m N : Nat} {cs cs' : List Value} (h : .blk b t cs ∈ L) (h0 : 0 < N) : Apart w0 (.row v t' m N cs' :: L) b (blkOf v) := fun w hs e => by
  have hn := hs.nd
  rw [List.pairwise_cons] at hn
  exact hn.1 _ h b (by rw [e]; exact row_own (hs.own _ List.mem_cons_self).2 h0) rfl
theorem freeG2S {v : Value} {xs : List Nat} {t : TypeId} {m N : Nat} {cs : List Value} (h : .row v t m N cs ∈ L) (h0 : 0 < N) (h2 : FreeG w0 L (some xs)) : FreeG w0 L (some (blkOf v :: xs)) := fun w hs k hk => ⟨by have := (hs.own _ h).1 _ (row_own (hs.own _ h).2 h0); omega, h2 w hs k hk⟩
theorem apartRS1 {v u : Value} {t t' : TypeId} {m m' N N' : Nat} {cs cs' : List Value} (h : .row u t' m' N' cs' ∈ L) (h0 : 0 < N') : ApartR w0 (.row v t m N cs :: L) v (blkOf u) := fun w hs e => by
  have hn := hs.nd
  rw [List.pairwise_cons] at hn
  exact hn.1 _ h _ e (row_own (hs.own _ (List.mem_cons_of_mem _ h)).2 h0)
theorem apartRS2 {v u : Value} {t t' : TypeId} {m m' N N' : Nat} {cs cs' : List Value} (h : .row v t m N cs ∈ L) (h0 : 0 < N') : ApartR w0 (.row u t' m' N' cs' :: L) v (blkOf u) := fun w hs e => by
  have hn := hs.nd
  rw [List.pairwise_cons] at hn
  exact hn.1 _ h _ (row_own (hs.own _ List.mem_cons_self).2 h0) e
/-! ### roads that meet again -/
def Mid {α : Type} (n : Nat) (w0 : World) (Ei : α → List (Nat × Value)) (Li : α → List Blk) (φ : α → Prop) (a : Act) (w : World) : Prop := ∃ x, φ x ∧ Env n a (Ei x) ∧ St w0 w (Li x)
/-- x ends in one of the told states, y goes on from there -/
theorem C_join {α : Type} {x y : Code} (Ei : α → List (Nat × Value)) (Li : α → List Blk) (φ : α → Prop) (hx : GoC P n w0 (Exit.then (Mid n w0 Ei Li φ) Q) E L x) (hy : ∀ z, φ z → GoC P n w0 Q (Ei z) (Li z) y) : GoC P n w0 Q E L (.seq x y) := fun a w he hs => by
  refine wp_seq (wp_mono (hx a w he hs) ?_)
  intro e a' w' hq
  cases e with
  | normal => obtain ⟨z, h1, h2, h3⟩ := hq; exact hy z h1 a' w' h2 h3
  | exit i => exact hq
  | goto l => exact hq
  | ret => exact hq
  | panic c => exact hq
  | outgrown => exact hq
theorem gSeqReg {i : Nat} {ops : Array Oper} {b : Bool} {y : Code} (h : GoC P n w0 Q E L (.seq (.region i ops b) y)) : GoC P n w0 Q E L (.seq (.region i ops b) y) := h
theorem gSeqCond {i : Nat} {ops : Array Oper} {b : Bool} {y z : Code} (h : GoC P n w0 Q E L (.seq (.seq (.region i ops b) y) z)) : GoC P n w0 Q E L (.seq (.seq (.region i ops b) y) z) := h
theorem E_join {α : Type} {Ei : α → List (Nat × Value)} {Li : α → List Blk} {φ : α → Prop} (z : α) (h1 : φ z) (hE : subE E (Ei z)) (hL : Ent w0 L (Li z)) : GoE n w0 (Exit.then (Mid n w0 Ei Li φ) Q) E L .normal := fun _ w he hs => ⟨z, h1, he.sub (subE_get hE), hL w hs⟩
end
end Go.Proofs.Ytodhjpnfokkfeaa

/- Words for the contracts: what a call hands back, and that what was there is as it was. -/
import Derived.Test.YtmfjlgfhhebboaaReg
namespace Go.Proofs.Ytmfjlgfhhebboaa
open Go.RowKit
/-- it returns v and leaves the world as it is -/
def RetQ (v : Value) (w : World) (e : Ending) (w' : World) : Prop := e = .returned v ∧ w = w'
/-- it returns v; what was there is as it was -/
def RetN (v : Value) (w : World) (e : Ending) (w' : World) : Prop := e = .returned v ∧ Ext w w'
theorem cell_alloc_ite (w : World) (c : Array Value) (t : TypeId) (n i : Nat) : (w.alloc (.cells c t)).cell? ⟨n, i, none⟩ = if n = w.heap.size then c[i]? else w.cell? ⟨n, i, none⟩ := by
  split
  · rename_i h; subst h; exact World.cell?_alloc_new w c t i
  · rename_i h; exact World.cell?_alloc_old w _ ⟨n, i, none⟩ h
theorem frozen_alloc_ite (w : World) (c : Array Value) (t : TypeId) (n i : Nat) : (w.alloc (.cells c t)).frozen? ⟨n, i, none⟩ = if n = w.heap.size then false else w.frozen? ⟨n, i, none⟩ := by
  split
  · rename_i h; subst h; exact World.frozen?_alloc_new w c t i
  · rename_i h; exact World.frozen?_alloc_old w _ ⟨n, i, none⟩ h
attribute [go_sem] cell_alloc_ite frozen_alloc_ite
theorem hid {p : Prop} (h : p) : Hid p := h
section
variable {P : Program} {f : FuncId} {args : Array Value} {w : World} {Q : Ending → World → Prop}
theorem splitQ {b : Bool} (h : Calls P f args w (RetQ (.bool b) w)) (ht : b = true → Q (.returned (.bool true)) w) (hf : b = false → Q (.returned (.bool false)) w) : Calls P f args w Q :=
  h.mono fun e w' ⟨he, hw⟩ => by subst he; subst hw; cases b; exact hf rfl; exact ht rfl
theorem splitN {b : Bool} (h : Calls P f args w (RetN (.bool b) w)) (ht : b = true → ∀ w', Ext w w' → Q (.returned (.bool true)) w') (hf : b = false → ∀ w', Ext w w' → Q (.returned (.bool false)) w') : Calls P f args w Q :=
  h.mono fun e w' ⟨he, hw⟩ => by subst he; cases b; exact hf rfl _ hw; exact ht rfl _ hw
theorem takeQ {v : Value} (h : Calls P f args w (RetQ v w)) (hq : Q (.returned v) w) : Calls P f args w Q :=
  h.mono fun e w' ⟨he, hw⟩ => by subst he; subst hw; exact hq
theorem takeN {v : Value} (h : Calls P f args w (RetN v w)) (hq : ∀ w', Ext w w' → Q (.returned v) w') : Calls P f args w Q :=
  h.mono fun e w' ⟨he, hw⟩ => by subst he; exact hq _ hw
end
end Go.Proofs.Ytmfjlgfhhebboaa

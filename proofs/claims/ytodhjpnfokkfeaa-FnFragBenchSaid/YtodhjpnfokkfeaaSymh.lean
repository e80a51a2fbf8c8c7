/- An empty slice literal that is appended to: a new row, and nothing that was there is written. -/
import Derived.Test.YtodhjpnfokkfeaaSymg
set_option linter.unusedSimpArgs false
set_option linter.unusedVariables false
namespace Go.Proofs.Ytodhjpnfokkfeaa
open Go Go.RowKit
section
variable {P : Program} {n : Nat} {w0 : World} {r : Option (List Nat)} {Q : Exit → Act → World → Prop} {E : List (Nat × Value)} {L : List Blk} {l : List Stp} {k d : Nat} {ty : TypeId} {x y : Operand} {t e : TypeId} {m : Nat}
theorem gSeqBlock {i : Nat} {y z : Code} (h : GoC P n w0 Q E L (.seq (.block i y) z)) : GoC P n w0 Q E L (.seq (.block i y) z) := h
theorem F_bs0L {bs : Nat} {zs : List Value} {parts : Array (Nat × Operand)} (hd : Nat.blt d n = true) (hp : parts.toList = []) (ht : IsEl P t e m bs zs) (hk : okk r k = true) (h : ∀ b, GoS P n w0 r Q ((d, .slice (some ⟨b, 0, none⟩) 0 0) :: E) (.row (.slice (some ⟨b, 0, none⟩) 0 0) e m 0 [] :: L) l) : GoS P n w0 r Q E L (⟨k + 1, none, some d, .buildSlice t 0 parts, ty⟩ :: l) := fun a w he hs => by
  refine S_act (fun a w he hs => ?_) a w he hs
  obtain ⟨hu, hm, hzl, i, z, hi, hz, hsz, hby, hzc⟩ := ht
  have hp' : parts = #[] := Array.ext' (by rw [hp])
  subst hp'
  have hr' : (execOp a.eval (Stp.oper ⟨k + 1, none, some d, .buildSlice t 0 #[], ty⟩)).run P w = .ok (.value (.slice (some ⟨w.heap.size, 0, none⟩) 0 0)) (w.alloc (.cells #[] e)) := by
    simp [Stp.oper, execOp, Instr.buildSlice, run_underlying hu, sizeOf, typeInfo, hi, Instr.fill, newRow]
    exact congrArg (fun c => w.alloc (.cells c e)) (by apply Array.ext'; simp [Array.toList_range])
  unfold Oper.wp
  rw [hr']
  refine ⟨rel_ext hk (Ext.alloc w _), h _ _ _ (he.put hd _) (hs.cons (Ext.alloc w _) ?_ ?_)⟩
  · exact Row.In.of (b := 0) ⟨by simp, .inr ⟨_, _, _, rfl, Nat.zero_le _, heap_alloc_new w _, Nat.le_refl _, by simp [maxLen], by simp, by simp⟩⟩
  · intro k hk
    have hk2 : w.heap.size = k := by simpa [Blk.foot, Value.ownBlock] using hk
    omega
theorem F_append0 {bs K b : Nat} {zs us : List Value} {u : Value} {ats : Array TypeId} {L' : Value → List Blk} (hx : ev E x = some (.slice (some ⟨b, 0, none⟩) 0 0)) (hy : ev E y = some u) (hd : Nat.blt d n = true) (ha : ats.toList = [t, t]) (ht : IsEl P t e m bs zs) (hl : ∀ s, Upd L (.row (.slice (some ⟨b, 0, none⟩) 0 0) e m 0 []) (.row s e m K us) (L' s)) (hr : Rd w0 L none u m K us) (h1 : us.all (·.oneCell') = true)
    (hk : okk r k = true) (h63 : K ≤ maxLen) (hb : K * bs ≤ 140737488355328) (h : ∀ s, GoS P n w0 r Q ((d, s) :: E) (L' s) l) : GoS P n w0 r Q E L (⟨k + 1, none, some d, .call ⟨.builtin .append, #[x, y], ats⟩, ty⟩ :: l) := fun a w he hs => by
  refine S_act (fun a w he hs => ?_) a w he hs
  obtain ⟨hu, hm, hzl, i, z, hi, hz, hsz, hby, hzc⟩ := ht
  have hx := he.eval hx
  have hy := he.eval hy
  have e2 : ats = #[t, t] := Array.ext' (by rw [ha])
  subst e2
  have hmem := hr w w hs rfl
  have hown : Row.In w ⟨.slice (some ⟨b, 0, none⟩) 0 0, e, m, 0, []⟩ := (hs.own _ (hl u).mem).2
  have key : ∃ v' w', (Builtin.append_ #[t, t] ty #[.slice (some ⟨b, 0, none⟩) 0 0, u]).run P w = .ok v' w' ∧ Row.In w' ⟨v', e, m, K, us⟩ ∧ Ext w w' ∧ (∀ k, v'.ownBlock = some k → (Value.slice (some ⟨b, 0, none⟩) 0 0).ownBlock = some k ∨ w.heap.size ≤ k) := by
    have hsrc : Src P i.size t u K us w := src_of hmem hu hsz hm h1
    by_cases hK : K = 0
    · subst hK
      have hus : us = [] := List.eq_nil_of_length_eq_zero (by simpa using hmem.2.1)
      subst hus
      have hh := run_append_room_src (P := P) w t t ty e i hu hi b 0 0 0 u 0 [] hsrc (by omega) (by simp) (by simp)
      exact ⟨_, _, hh, by simpa [World.setCells] using hown, Ext.refl w, fun k hk => .inl hk⟩
    · obtain ⟨v', w', r1, r2, r3, r4⟩ := append_grow_row (tx := t) (ty := ty) (N := 0) (cap := 0) (cs := []) (base := some ⟨b, 0, none⟩) hu hm hzl hi hz hsz hby hzc (by simp) hmem.2.1 hsrc (by omega) (by simp [Builtin.firstCells, loadCells, loadCellsFrom]) (by simpa using h63) (by simpa using hb)
      simp only [Nat.zero_add, List.nil_append] at r2
      exact ⟨v', w', r1, r2, r3, fun k hk => .inr (r4 k hk)⟩
  obtain ⟨v', w', hrun, ho, hg, hf⟩ := key
  have hr' : (execOp a.eval (Stp.oper ⟨k + 1, none, some d, .call ⟨.builtin .append, #[x, y], #[t, t]⟩, ty⟩)).run P w = .ok (.value v') w' := by
    generalize a.eval = ρ at hx hy
    simp only [Stp.oper, execOp, resolve, invoke, builtin, Sem.run_bind, Sem.run_pure, Result.andThen_ok, List.map_toArray, List.map_cons, List.map_nil, hx, hy, hrun]
  unfold Oper.wp
  rw [hr']
  exact ⟨rel_ext hk hg, h _ _ _ (he.put hd _) (hs.turn (hl v') hg.os hg.tape hg.output hg.size (fun k hk _ => hg.block k hk) ho hf)⟩
end
end Go.Proofs.Ytodhjpnfokkfeaa

/- Slices whose capacity is told; a head lengthened by zeros beyond it; copies into the tail of an own row. -/
import Derived.Test.YtlkcgonbkdflpaaSymk
set_option linter.unusedSimpArgs false
set_option linter.unusedVariables false
namespace Go.Proofs.Ytlkcgonbkdflpaa
open Go Go.RowKit
section
variable {P : Program} {n : Nat} {w0 : World} {r : Option (List Nat)} {Q : Exit → Act → World → Prop} {E : List (Nat × Value)} {L L' : List Blk} {l : List Stp} {k d : Nat} {ty : TypeId} {x y : Operand} {v : Value} {t e : TypeId} {m N : Nat} {cs : List Value}
theorem F_make0C {c bs : Nat} {zs : List Value} (hx : ev E x = some (.int .i64 0)) (hy : ev E y = some (.int .i64 (c : Int))) (hd : Nat.blt d n = true) (ht : IsEl P t e m bs zs) (hk : okk r k = true) (hb : bs * c ≤ 281474976710656) (hc : c ≤ maxLen)
    (h : ∀ g, GoS P n w0 r Q ((d, .slice (some ⟨g, 0, none⟩) 0 c) :: E) (.row (.slice (some ⟨g, 0, none⟩) 0 c) e m 0 [] :: L) l) : GoS P n w0 r Q E L (⟨k + 1, none, some d, .makeSlice t x y, ty⟩ :: l) := fun a w he hs => by
  refine S_act (fun a w he hs => ?_) a w he hs
  obtain ⟨hu, hm, hzl, i, z, hi, hz, hsz, hby, hzc⟩ := ht
  have hx := he.eval hx
  have hy := he.eval hy
  obtain ⟨w', hr, ho, hg⟩ := run_make_own (P := P) w w.heap.size t e i z m hu hi hz hsz .i64 .i64 c (by rw [hby]; exact hb) hc (Nat.le_refl _)
  have hr' : (execOp a.eval (Stp.oper ⟨k + 1, none, some d, .makeSlice t x y, ty⟩)).run P w = .ok (.value (.slice (some ⟨w.heap.size, 0, none⟩) 0 c)) w' := by
    generalize a.eval = ρ at hx hy
    simp [Stp.oper, execOp, hx, hy, go_sem, hr]
  unfold Oper.wp
  rw [hr']
  exact ⟨rel_ext hk (grown_ext hg), h _ _ _ (he.put hd _) (hs.cons (grown_ext hg) (ownsRow_row ho) (ownsRow_ge ho))⟩
/-- append where there is room: the slice stays where it is -/
theorem F_appendFit {g o c bs K : Nat} {zs : List Value} {u : Value} {us : List Value} {ats : Array TypeId} (hx : ev E x = some (.slice (some ⟨g, o, none⟩) N c)) (hy : ev E y = some u) (hd : Nat.blt d n = true) (ha : ats.toList = [t, t]) (ht : IsEl P t e m bs zs)
    (hl : Upd L (.row (.slice (some ⟨g, o, none⟩) N c) e m N cs) (.row (.slice (some ⟨g, o, none⟩) (N + K) c) e m (N + K) (cs ++ us)) L') (hr : Rd w0 L none u m K us) (h1 : us.all (·.oneCell') = true)
    (hk : okst r k g) (hroom : N + K ≤ c) (h : GoS P n w0 r Q ((d, .slice (some ⟨g, o, none⟩) (N + K) c) :: E) L' l) : GoS P n w0 r Q E L (⟨k + 1, none, some d, .call ⟨.builtin .append, #[x, y], ats⟩, ty⟩ :: l) := fun a w he hs => by
  refine S_act (fun a w he hs => ?_) a w he hs
  obtain ⟨hu, hm, hzl, i, z, hi, hz, hsz, hby, hzc⟩ := ht
  have hx := he.eval hx
  have hy := he.eval hy
  have e2 : ats = #[t, t] := Array.ext' (by rw [ha])
  subst e2
  have hmem := hr w w hs rfl
  have hown : Row.In w ⟨.slice (some ⟨g, o, none⟩) N c, e, m, N, cs⟩ := (hs.own _ hl.mem).2
  have hown0 : cs.length = N * m := hown.1
  have hul := hmem.2.1
  have hsrc : Src P i.size t u K us w := src_of hmem hu hsz hm h1
  obtain ⟨_, ⟨hv, _⟩ | ⟨g', o', cap, cur, hv, q1, q2, q3, q4, q5⟩⟩ := hown
  · cases hv
  cases hv
  dsimp only at q1 q2 q3 q4 q5
  have hNK : (N + K) * m ≤ c * m := Nat.mul_le_mul_right _ hroom
  have hNKe : (N + K) * m = N * m + us.length := by rw [hul, Nat.add_mul]
  have hcsz : cur.toList.length = cur.size := by simp
  have hr0 := run_append_room_own (P := P) (ty := ty) w t t e i hu hi g o N c cur q1 u K us hsrc hroom (by rw [hsz]; omega)
  rw [hsz] at hr0
  have hX := ext_setRow (w := w) (b := g) (cur.toList.take (o + N * m) ++ us ++ cur.toList.drop (o + N * m + us.length)).toArray
  have ho : Row.In (w.setRow g (cur.toList.take (o + N * m) ++ us ++ cur.toList.drop (o + N * m + us.length)).toArray) ⟨.slice (some ⟨g, o, none⟩) (N + K) c, e, m, N + K, cs ++ us⟩ := by
    refine ⟨?_, .inr ⟨g, o, c, _, rfl, setRow_heap w g cur _ e _ q1, hroom, q3, ?_, ?_⟩⟩
    · show (cs ++ us).length = (N + K) * m
      rw [List.length_append, hown0, hul, Nat.add_mul]
    · simp only [List.size_toArray, List.length_append, List.length_take, List.length_drop]
      omega
    · show (List.drop o (_ ++ _ ++ _)).take ((N + K) * m) = cs ++ us
      have e1 : (cur.toList.take (o + N * m)).length = o + N * m := by rw [List.length_take]; omega
      rw [List.append_assoc, List.drop_append_of_le_length (by omega), List.drop_take, Nat.add_sub_cancel_left, q5, ← List.append_assoc, hNKe, ← hown0]
      exact List.take_left' (by rw [List.length_append])
  have hr' : (execOp a.eval (Stp.oper ⟨k + 1, none, some d, .call ⟨.builtin .append, #[x, y], #[t, t]⟩, ty⟩)).run P w = .ok (.value (.slice (some ⟨g, o, none⟩) (N + K) c)) (w.setRow g (cur.toList.take (o + N * m) ++ us ++ cur.toList.drop (o + N * m + us.length)).toArray) := by
    generalize a.eval = ρ at hx hy
    simp only [Stp.oper, execOp, resolve, invoke, builtin, Sem.run_bind, Sem.run_pure, Result.andThen_ok, List.map_toArray, List.map_cons, List.map_nil, hx, hy, hr0]
  unfold Oper.wp
  rw [hr']
  refine ⟨okst_relX hk hX, h _ _ (he.put hd _) (hs.turn hl hX.1 hX.2.1 hX.2.2.1 hX.2.2.2.1 (fun q hq hn => hX.2.2.2.2 q hq (by rw [List.mem_singleton]; intro e1; subst e1; exact hn rfl)) ho (fun q hq => .inl hq))⟩
theorem F_capL {a0 : Option Addr} {c : Nat} {ats : Array TypeId} (hx : ev E x = some (.slice a0 N c)) (hd : Nat.blt d n = true) (ht : ats.toList = [t]) (hu : ∃ e m, IsSl P t e m) (h : GoS P n w0 r Q ((d, .int .i64 (c : Int)) :: E) L l) : GoS P n w0 r Q E L (⟨0, none, some d, .call ⟨.builtin .cap, #[x], ats⟩, ty⟩ :: l) := by
  obtain ⟨e, m, hu, _⟩ := hu
  intro a w he hs
  refine S_read hd (fun ρ w he hs w' _ => ?_) h a w he hs
  have hx := he _ _ hx
  have e : ats = #[t] := Array.ext' (by rw [ht])
  subst e
  simp [Stp.oper, execOp, resolve, invoke, builtin, hx, go_sem, Builtin.cap_, run_underlying hu, goInt]
theorem run_append_zeros {w : World} (t tn ty e : TypeId) (i : TypeInfo) (z : Value) (ht : P.underlying t = some (.slice e)) (htn : ∃ q, P.underlying tn = some (.int q)) (hi : P.info? e = some i) (hz : i.zero = some z) (base : Option Addr) (sLen sCap : Nat) (olds : List Value)
    (hold : (Builtin.firstCells i.size sLen (.slice base sLen sCap)).run P w.drew = .ok olds.toArray w.drew) (K : Nat) (hK : 0 < K) (hz0 : 0 < i.size) (hg : sCap < sLen + K) (h63 : ((sLen + K : Nat) : Int) ≤ 9223372036854775807) (h48 : K * i.bytes ≤ 281474976710656) (hfit : Builtin.nextslicecap (sLen + K) sCap * i.bytes ≤ 281474976710656) :
    (Builtin.append_ #[t, tn] ty #[.slice base sLen sCap, .int .i64 (K : Int)]).run P w =
      .ok (.slice (some ⟨w.heap.size, 0, none⟩) (sLen + K) (grownCap w (sLen + K) sCap e))
        (w.drew.alloc (.cells (olds.toArray ++ Builtin.zeroCells z.cells K ++ Builtin.zeroCells z.cells (grownCap w (sLen + K) sCap e - (sLen + K))) e)) := by
  obtain ⟨q, htn⟩ := htn
  have hn : ¬ (sLen + K ≤ sCap) := by omega
  have hw : IntKind.i64.wrap (K : Int) = K := by rw [IntKind.wrap_i64]; omega
  have hneg : ¬ ((K : Int) < 0) := by omega
  have h63' : ¬ (9223372036854775807 < ((sLen : Int) + (K : Int))) := by omega
  have h48' : ¬ (281474976710656 < Builtin.nextslicecap (sLen + K) sCap * i.bytes) := by omega
  have h48i : ¬ (281474976710656 < (K : Int) * (i.bytes : Int)) := by rw [← Int.natCast_mul]; omega
  have hn0 : ¬ (K = 0) := by omega
  have hs0 : ¬ (i.size = 0) := by omega
  simp [Builtin.append_, run_underlying ht, run_underlying htn, sizeOf, typeInfo, zeroValue, asInt, asIntOf, hi, hz, hw, hneg, hn, h63', h48', h48i, hn0, hs0, Question.forced, hold, newRow, grownCap]
  intro h0
  exact absurd h0 (Nat.ne_of_gt (Nat.mul_pos hK hz0))
/-- a head of an own row, lengthened by zeros beyond the row's capacity: a new row; the old one stays -/
theorem F_appendZ {c bs I K : Nat} {a0 : Option Addr} {zs : List Value} {tn : TypeId} {ats : Array TypeId} {p : Int} (hx : ev E x = some (subV (.slice a0 N c) m 0 I)) (hy : ev E y = some (.int .i64 p)) (hp : p = (K : Int)) (hd : Nat.blt d n = true) (ha : ats.toList = [t, tn]) (htn : ∃ q, P.underlying tn = some (.int q)) (ht : IsEl P t e m bs zs)
    (hl : .row (.slice a0 N c) e m N cs ∈ L) (hI : I ≤ N) (hk : okk r k = true) (hK : 0 < K) (hroom : c < I + K) (h63 : I + K ≤ maxLen) (hb : (I + K) * bs ≤ 140737488355328)
    (h : ∀ s, GoS P n w0 r Q ((d, s) :: E) (.row s e m (I + K) (cs.take (I * m) ++ (List.replicate K zs).flatten) :: L) l) : GoS P n w0 r Q E L (⟨k + 1, none, some d, .call ⟨.builtin .append, #[x, y], ats⟩, ty⟩ :: l) := fun a w he hs => by
  refine S_act (fun a w he hs => ?_) a w he hs
  obtain ⟨hu, hm, hzl, i, z, hi, hz, hsz, hby, hzc⟩ := ht
  have hx := he.eval hx
  have hy := he.eval hy
  subst hp
  have e2 : ats = #[t, tn] := Array.ext' (by rw [ha])
  subst e2
  have hown : Row.In w ⟨.slice a0 N c, e, m, N, cs⟩ := (hs.own _ hl).2
  have hown0 : cs.length = N * m := hown.1
  have hpart := (Row.In.part hown (Nat.zero_le I) hI).1
  have hmem := Row.In.mem hpart
  obtain ⟨a1, c1, ev1, hev⟩ := subV_zero (m := m) (hi := I) (Row.In.mem hown).1
  cases ev1
  rw [hev] at hx hmem
  have e3 : (cs.drop (0 * m)).take ((I - 0) * m) = cs.take (I * m) := by rw [Nat.zero_mul, List.drop_zero, Nat.sub_zero]
  rw [e3, Nat.sub_zero] at hmem
  have htl : (cs.take (I * m)).length = I * m := hmem.2.1
  have hfc : (Builtin.firstCells i.size I (.slice a0 I c)).run P w.drew = .ok (cs.take (I * m)).toArray w.drew := by
    by_cases h0 : I = 0
    · subst h0
      have hnil : cs.take (0 * m) = [] := by rw [Nat.zero_mul]; rfl
      rw [hnil]
      cases a0 with
      | none => exact run_firstCells_none w.drew i.size 0 0 c
      | some a' => exact run_firstCells_some w.drew i.size 0 a' 0 c [] (by simp) (by intro _ _ h'; simp at h')
    · have hpos : 0 < (cs.take (I * m)).length := by rw [htl]; exact Nat.mul_pos (by omega) hm
      obtain ⟨b, o, c2, ev2, _⟩ := hmem.2.2 0 _ (List.getElem?_eq_getElem hpos)
      cases ev2
      refine run_firstCells_some w.drew i.size I ⟨b, o, none⟩ I c (cs.take (I * m)) (by rw [hsz]; exact htl) (fun j q hj => ?_)
      rw [Addr.add_mid]
      obtain ⟨b2, o2, c2, e4, hc⟩ := hmem.2.2 j q hj
      cases e4
      simpa using hc
  have hmz : z.cells.size = m := by rw [hzc]; simpa using hzl
  have hKb : K * i.bytes ≤ (I + K) * bs := by rw [hby]; exact Nat.mul_le_mul_right _ (by omega)
  have hr0 := run_append_zeros (P := P) (w := w) t tn ty e i z hu htn hi hz a0 I c _ hfc K hK (by omega) hroom (by simp only [maxLen] at h63; omega) (by omega) (growslice_fits (by omega) (by rw [hby]; exact hb))
  have hle : I + K ≤ grownCap w (I + K) c e ∧ grownCap w (I + K) c e ≤ maxLen := ⟨grownCap_ge w _ _ _, grownCap_le_maxLen w _ _ _ h63⟩
  have hzr := rep_flat_len hzl K
  have hzl2 : (Builtin.zeroCells z.cells K).toList = (List.replicate K zs).flatten := zeroCells_eq hzc (by omega) K
  have hlen2 : (cs.take (I * m) ++ (List.replicate K zs).flatten).length = (I + K) * m := by rw [List.length_append, htl, hzr, Nat.add_mul]
  generalize hw' : w.drew.alloc (.cells ((cs.take (I * m)).toArray ++ Builtin.zeroCells z.cells K ++ Builtin.zeroCells z.cells (grownCap w (I + K) c e - (I + K))) e) = w' at hr0
  have hX : Ext w w' := by rw [← hw']; exact (Ext.drew w).trans (Ext.alloc w.drew _)
  have ho : Row.In w' ⟨.slice (some ⟨w.heap.size, 0, none⟩) (I + K) (grownCap w (I + K) c e), e, m, I + K, cs.take (I * m) ++ (List.replicate K zs).flatten⟩ := by
    refine ⟨hlen2, .inr ⟨w.heap.size, 0, grownCap w (I + K) c e, (cs.take (I * m)).toArray ++ Builtin.zeroCells z.cells K ++ Builtin.zeroCells z.cells (grownCap w (I + K) c e - (I + K)), rfl, ?_, hle.1, hle.2, ?_, ?_⟩⟩
    · rw [← hw']
      have := heap_alloc_new w.drew (.cells ((cs.take (I * m)).toArray ++ Builtin.zeroCells z.cells K ++ Builtin.zeroCells z.cells (grownCap w (I + K) c e - (I + K))) e)
      simpa using this
    · show 0 + grownCap w (I + K) c e * m ≤ _
      rw [Array.size_append, Array.size_append, size_zeroCells, size_zeroCells, hmz, List.size_toArray, htl, ← Nat.add_mul, ← Nat.add_mul, Nat.zero_add]
      exact Nat.mul_le_mul_right _ (by omega)
    · rw [List.drop_zero, Array.toList_append, Array.toList_append, hzl2]
      show ((cs.take (I * m) ++ (List.replicate K zs).flatten) ++ _).take ((I + K) * m) = _
      rw [← hlen2]
      exact List.take_left' rfl
  have hr' : (execOp a.eval (Stp.oper ⟨k + 1, none, some d, .call ⟨.builtin .append, #[x, y], #[t, tn]⟩, ty⟩)).run P w = .ok (.value (.slice (some ⟨w.heap.size, 0, none⟩) (I + K) (grownCap w (I + K) c e))) w' := by
    generalize a.eval = ρ at hx hy
    simp only [Stp.oper, execOp, resolve, invoke, builtin, Sem.run_bind, Sem.run_pure, Result.andThen_ok, List.map_toArray, List.map_cons, List.map_nil, hx, hy, hr0]
  unfold Oper.wp
  rw [hr']
  exact ⟨rel_ext hk hX, h _ _ _ (he.put hd _) (hs.cons hX ho (fun q hq => by have hq' : w.heap.size = q := by simpa [Blk.foot, Value.ownBlock] using hq
                                                                             omega))⟩
/-- a copy into the tail of an own row -/
theorem F_copyIn {lo K bs : Nat} {zs : List Value} {u : Value} {us : List Value} {ats : Array TypeId} (hx : ev E x = some (subV v m lo N)) (hy : ev E y = some u) (hd : Nat.blt d n = true) (ha : ats.toList = [t, t]) (ht : IsEl P t e m bs zs) (hlo : lo + K ≤ N) (hlo2 : lo < N) (hr : Rd w0 L none u m K us) (h1 : us.all (·.oneCell') = true)
    (hl : Upd L (.row v e m N cs) (.row v e m N (setAt cs (lo * m) us)) L') (hk : okst r k (blkOf v)) (h : GoS P n w0 r Q ((d, .int .i64 (K : Int)) :: E) L' l) : GoS P n w0 r Q E L (⟨k + 1, none, some d, .call ⟨.builtin .copy, #[x, y], ats⟩, ty⟩ :: l) := fun a w he hs => by
  refine S_act (fun a w he hs => ?_) a w he hs
  obtain ⟨hu, hm, hzl, i, z, hi, hz, hsz, hby, hzc⟩ := ht
  have hx := he.eval hx
  have hy := he.eval hy
  have e2 : ats = #[t, t] := Array.ext' (by rw [ha])
  subst e2
  have hmem := hr w w hs rfl
  have ho : Row.In w ⟨v, e, m, N, cs⟩ := (hs.own _ hl.mem).2
  have hcl : cs.length = N * m := ho.1
  obtain ⟨a0, c, rfl, hc, hcm, _⟩ := (Row.In.mem ho).1
  have hul := hmem.2.1
  have hsrc : Src P i.size t u K us w := src_of hmem hu hsz hm h1
  obtain ⟨g, o, cur, rfl, hg, hsz2⟩ := Row.In.some ho (by omega)
  rw [subV_lit (by omega)] at hx
  have hNm : N * m ≤ c * m := Nat.mul_le_mul_right _ hc
  have hlm : (lo + K) * m ≤ N * m := Nat.mul_le_mul_right _ hlo
  rw [Nat.add_mul] at hlm
  have hst := run_storeCells_at P g (o + lo * m) e us 0 cur w hg (by omega) hsrc.one
  simp only [Nat.add_zero] at hst
  have hmin : Nat.min K (N - lo) = K := Nat.min_eq_left (by omega)
  have hX := ext_setRow (w := w) (b := g) (cur.toList.take (o + lo * m) ++ us ++ cur.toList.drop (o + lo * m + us.length)).toArray
  have hr0 : (Builtin.copy_ #[t, t] ty #[.slice (some ⟨g, o + lo * m, none⟩) (N - lo) (c - lo), u]).run P w = .ok (.int .i64 (K : Int)) (w.setRow g (cur.toList.take (o + lo * m) ++ us ++ cur.toList.drop (o + lo * m + us.length)).toArray) := by
    simp [Builtin.copy_, run_underlying hu, sizeOf, typeInfo, hi, hsrc.len, hmin, hsrc.cells, hst, goInt]
  have hr' : (execOp a.eval (Stp.oper ⟨k + 1, none, some d, .call ⟨.builtin .copy, #[x, y], #[t, t]⟩, ty⟩)).run P w = .ok (.value (.int .i64 (K : Int))) (w.setRow g (cur.toList.take (o + lo * m) ++ us ++ cur.toList.drop (o + lo * m + us.length)).toArray) := by
    generalize a.eval = ρ at hx hy
    simp only [Stp.oper, execOp, resolve, invoke, builtin, Sem.run_bind, Sem.run_pure, Result.andThen_ok, List.map_toArray, List.map_cons, List.map_nil, hx, hy, hr0]
  unfold Oper.wp
  rw [hr']
  exact ⟨okst_relX hk hX, h _ _ (he.put hd _) (hs.turn hl hX.1 hX.2.1 hX.2.2.1 hX.2.2.2.1 (fun q hq hn => hX.2.2.2.2 q hq (by rw [List.mem_singleton]; intro e1; subst e1; exact hn rfl)) (own_set ho hg (by rw [hul, hcl]; omega)) (fun q hq => .inl hq))⟩
end
end Go.Proofs.Ytlkcgonbkdflpaa

/- What is cleared behind an end, and what is drawn together over a gap: rows that lose elements where they lie. -/
import Derived.Test.YtodhjpnfokkfeaaSymi
set_option linter.unusedSimpArgs false
set_option linter.unusedVariables false
namespace Go.Proofs.Ytodhjpnfokkfeaa
open Go Go.RowKit
theorem zeroCells_eq {zs : List Value} {z : Value} (hz : z.cells = zs.toArray) (hp : 0 < zs.length) (N : Nat) : (Builtin.zeroCells z.cells N).toList = (List.replicate N zs).flatten := by
  have h := zeros_eq hz hp N
  unfold madeCells at h
  unfold Builtin.zeroCells
  rw [show z.cells.size = zs.length by rw [hz]; simp]
  rw [← h]
  congr 2
  funext i
  rw [show z.cells.size = zs.length by rw [hz]; simp]
theorem rep_flat_len {zs : List Value} {m : Nat} (hz : zs.length = m) (N : Nat) : ((List.replicate N zs).flatten).length = N * m := by
  induction N with
  | zero => simp
  | succ N ih => rw [List.replicate_succ, List.flatten_cons, List.length_append, ih, hz, Nat.add_mul]; omega
/-- an own row's block, told -/
theorem Row.In.some {w : World} {a : Option Addr} {t : TypeId} {m N c : Nat} {cs : List Value} (h : Row.In w ⟨.slice a N c, t, m, N, cs⟩) (h0 : 0 < c) : ∃ g o cur, a = some ⟨g, o, none⟩ ∧ w.heap[g]? = some (.cells cur t (0, 0)) ∧ o + c * m ≤ cur.size := by
  obtain ⟨_, ⟨hv, _⟩ | ⟨g, o, cap, cur, hv, hg, q1, q2, q3, q4⟩⟩ := h
  · cases hv; omega
  · cases hv
    exact ⟨g, o, cur, rfl, hg, q3⟩
theorem subV_lit {g o n c m lo hi : Nat} (h : lo < c) : subV (.slice (some ⟨g, o, none⟩) n c) m lo hi = .slice (some ⟨g, o + lo * m, none⟩) (hi - lo) (c - lo) := by
  show sliced _ _ _ _ _ = _
  unfold sliced
  rw [if_neg (by omega)]
  show Value.slice (some (Addr.add _ _)) _ _ = _
  rw [Addr.add_lit]
theorem subV_n {a : Option Addr} {n n' c m lo hi : Nat} : subV (.slice a n c) m lo hi = subV (.slice a n' c) m lo hi := rfl
theorem subV_zero {v : Value} {n m hi : Nat} (h : IsN v n) : ∃ a c, v = .slice a n c ∧ subV v m 0 hi = .slice a hi c := by
  obtain ⟨a, c, rfl, _⟩ := h
  refine ⟨a, c, rfl, ?_⟩
  show sliced _ _ _ _ _ = _
  unfold sliced
  cases a with
  | none => split <;> simp
  | some a =>
    split
    · simp
    · show Value.slice (some (Addr.add _ _)) _ _ = _
      rw [Nat.zero_mul]
      simp [Addr.add]
theorem okst_relX {r : Option (List Nat)} {k b : Nat} {w w' : World} (h : okst r k b) (hx : ExtX [b] w w') : k = 0 → Rel r w w' := fun e => by
  obtain ⟨xs, rfl, hb⟩ := h e
  exact ⟨hx.1, hx.2.1, hx.2.2.1, hx.2.2.2.1, fun i hi hn => hx.2.2.2.2 i hi (by rw [List.mem_singleton]; exact fun e => hn (e ▸ hb))⟩
section
variable {P : Program} {n : Nat} {w0 : World} {r : Option (List Nat)} {Q : Exit → Act → World → Prop} {E : List (Nat × Value)} {L L' : List Blk} {l : List Stp} {k d : Nat} {ty : TypeId} {x y : Operand} {v : Value} {t e : TypeId} {m N : Nat} {cs : List Value}
/-- the tail of an own row is cleared -/
theorem F_clear {bs lo : Nat} {zs : List Value} {ats : Array TypeId} (hx : ev E x = some (subV v m lo N)) (ha : ats.toList = [t]) (ht : IsEl P t e m bs zs) (h1 : zs.all (·.oneCell') = true) (hlo : lo ≤ N)
    (hl : Upd L (.row v e m N cs) (.row v e m N (setAt cs (lo * m) (List.replicate (N - lo) zs).flatten)) L') (hk : okst r k (blkOf v)) (h : GoS P n w0 r Q E L' l) : GoS P n w0 r Q E L (⟨k + 1, none, none, .call ⟨.builtin .clear, #[x], ats⟩, ty⟩ :: l) := fun a w he hs => by
  refine S_act (fun a w he hs => ?_) a w he hs
  obtain ⟨hu, hm, hzl, i, z, hi, hz, hsz, hby, hzc⟩ := ht
  have hx := he.eval hx
  have e2 : ats = #[t] := Array.ext' (by rw [ha])
  subst e2
  have ho : Row.In w ⟨v, e, m, N, cs⟩ := (hs.own _ hl.mem).2
  have hcl : cs.length = N * m := ho.1
  obtain ⟨a0, c, rfl, hc, hcm, _⟩ := (Row.In.mem ho).1
  have hmul : (N - lo) * m = N * m - lo * m := Nat.sub_mul _ _ _
  have hml : lo * m ≤ N * m := Nat.mul_le_mul_right _ hlo
  have hrl := rep_flat_len hzl (N - lo)
  have key : ∃ w', (Builtin.clear_ #[t] ty #[subV (.slice a0 N c) m lo N]).run P w = .ok (.tuple #[]) w' ∧ Row.In w' ⟨.slice a0 N c, e, m, N, setAt cs (lo * m) (List.replicate (N - lo) zs).flatten⟩ ∧ ExtX [blkOf (.slice a0 N c)] w w' ∧ ∀ q, q < w.heap.size → ¬ Blk.foot (.row (.slice a0 N c) e m N cs) q → w'.heap[q]? = w.heap[q]? := by
    rcases Nat.eq_or_lt_of_le hlo with h0 | h0
    · subst h0
      have e3 : (setAt cs (lo * m) (List.replicate (lo - lo) zs).flatten) = cs := by
        rw [Nat.sub_self]
        unfold setAt
        simp
      rw [e3]
      refine ⟨w, ?_, ho, ExtX.refl _ w, fun _ _ _ => rfl⟩
      show (Builtin.clear_ #[t] ty #[sliced a0 lo lo c m]).run P w = _
      unfold sliced
      rw [Nat.sub_self]
      cases a0 with
      | none => simp [Builtin.clear_, run_underlying hu]
      | some a0 => split <;> simp [Builtin.clear_, run_underlying hu]
    · obtain ⟨g, o, cur, rfl, hg, hsz2⟩ := Row.In.some ho (by omega)
      rw [subV_lit (by omega)]
      have hNm : N * m ≤ c * m := Nat.mul_le_mul_right _ hc
      have hst := run_storeCells_at P g (o + lo * m) e (List.replicate (N - lo) zs).flatten 0 cur w hg (by rw [hrl]; omega) (fun u hu => by
        rw [List.mem_flatten] at hu
        obtain ⟨q, hq, hu⟩ := hu
        rw [List.eq_of_mem_replicate hq] at hu
        exact (List.all_eq_true.1 h1) u hu)
      simp only [Nat.add_zero] at hst
      have hzz : ((zeroValue e).run P w) = .ok z w := by simp [zeroValue, typeInfo, hi, hz]
      have hX := ext_setRow (w := w) (b := g) (cur.toList.take (o + lo * m) ++ (List.replicate (N - lo) zs).flatten ++ cur.toList.drop (o + lo * m + (List.replicate (N - lo) zs).flatten.length)).toArray
      refine ⟨_, ?_, own_set ho hg (by rw [hrl, hcl]; omega), hX, fun q hq hn => hX.2.2.2.2 q hq (by rw [List.mem_singleton]; intro e1; subst e1; exact hn rfl)⟩
      have hn1 : ∃ q, N - lo = q + 1 := ⟨N - lo - 1, by omega⟩
      obtain ⟨q, hq⟩ := hn1
      rw [← zeroCells_eq hzc (by omega)] at hst ⊢
      rw [hq] at hst ⊢
      simp [Builtin.clear_, run_underlying hu, hzz, hst]
  obtain ⟨w', hrun, ho', hX, hfar⟩ := key
  have hr' : (execOp a.eval (Stp.oper ⟨k + 1, none, none, .call ⟨.builtin .clear, #[x], #[t]⟩, ty⟩)).run P w = .ok (.value (.tuple #[])) w' := by
    generalize a.eval = ρ at hx
    simp only [Stp.oper, execOp, resolve, invoke, builtin, Sem.run_bind, Sem.run_pure, Result.andThen_ok, List.map_toArray, List.map_cons, List.map_nil, hx, hrun]
  unfold Oper.wp
  rw [hr']
  refine ⟨okst_relX hk hX, h _ _ (he.none _) ?_⟩
  exact hs.turn hl hX.1 hX.2.1 hX.2.2.1 hX.2.2.2.1 hfar ho' (fun q hq => .inl hq)
/-- s[:i] with s[j:] appended to it, i <= j: drawn together where they lie -/
theorem F_appendIn {bs I J : Nat} {zs : List Value} {ats : Array TypeId} (hx : ev E x = some (subV v m 0 I)) (hy : ev E y = some (subV v m J N)) (hd : Nat.blt d n = true) (ha : ats.toList = [t, t]) (ht : IsEl P t e m bs zs) (hIJ : I ≤ J) (hJ : J ≤ N) (h1 : (cs.drop (J * m)).all (·.oneCell') = true)
    (hl : Upd L (.row v e m N cs) (.row v e m N (setAt cs (I * m) (cs.drop (J * m)))) L') (hk : okst r k (blkOf v)) (h : GoS P n w0 r Q ((d, subV v m 0 (I + (N - J))) :: E) L' l) : GoS P n w0 r Q E L (⟨k + 1, none, some d, .call ⟨.builtin .append, #[x, y], ats⟩, ty⟩ :: l) := fun a w he hs => by
  refine S_act (fun a w he hs => ?_) a w he hs
  obtain ⟨hu, hm, hzl, i, z, hi, hz, hsz, hby, hzc⟩ := ht
  have hx := he.eval hx
  have hy := he.eval hy
  have e2 : ats = #[t, t] := Array.ext' (by rw [ha])
  subst e2
  have ho : Row.In w ⟨v, e, m, N, cs⟩ := (hs.own _ hl.mem).2
  have hcl : cs.length = N * m := ho.1
  have hp := (Row.In.part ho hJ (Nat.le_refl _)).1
  have hisN := (Row.In.mem ho).1
  obtain ⟨a0, c, rfl, hev⟩ := subV_zero (m := m) (hi := I) hisN
  obtain ⟨_, _, hev1, hev2⟩ := subV_zero (m := m) (hi := I + (N - J)) hisN
  cases hev1
  obtain ⟨_, c', hev3, hc, hcm, _⟩ := hisN
  cases hev3
  have hmul : (N - J) * m = N * m - J * m := Nat.sub_mul _ _ _
  have hml : J * m ≤ N * m := Nat.mul_le_mul_right _ hJ
  have hIm : I * m ≤ J * m := Nat.mul_le_mul_right _ hIJ
  have hdt : (cs.drop (J * m)).take ((N - J) * m) = cs.drop (J * m) := List.take_of_length_le (by rw [List.length_drop]; omega)
  rw [hdt] at hp
  have hdl : (cs.drop (J * m)).length = (N - J) * m := by rw [List.length_drop]; omega
  have hsrc : Src P i.size t (subV (.slice a0 N c) m J N) (N - J) (cs.drop (J * m)) w := src_of (Row.In.mem hp) hu hsz hm h1
  have key : ∃ w', (Builtin.append_ #[t, t] ty #[.slice a0 I c, subV (.slice a0 N c) m J N]).run P w = .ok (.slice a0 (I + (N - J)) c) w' ∧ Row.In w' ⟨.slice a0 N c, e, m, N, setAt cs (I * m) (cs.drop (J * m))⟩ ∧ ExtX [blkOf (.slice a0 N c)] w w' ∧ ∀ q, q < w.heap.size → ¬ Blk.foot (.row (.slice a0 N c) e m N cs) q → w'.heap[q]? = w.heap[q]? := by
    rcases Nat.eq_zero_or_pos c with h0 | h0
    · have eN : N = 0 := by omega
      have eI : I = 0 := by omega
      have eJ : J = 0 := by omega
      subst eN eI eJ
      have hcs : cs = [] := List.eq_nil_of_length_eq_zero (by simpa using hcl)
      subst hcs
      subst h0
      refine ⟨w, ?_, by simpa [setAt] using ho, ExtX.refl _ w, fun _ _ _ => rfl⟩
      obtain ⟨_, ⟨hv, _⟩ | ⟨g, o, cap, cur, hv, hg, q1, q2, q3, q4⟩⟩ := ho
      · cases hv
        simp [Builtin.append_, run_underlying hu, sizeOf, typeInfo, hi, subV, sliced, Builtin.lenOf, Builtin.firstCells, loadCells, loadCellsFrom]
      · cases hv
        have hh := run_append_room_src (P := P) w t t ty e i hu hi g o 0 0 _ (0 - 0) _ hsrc (by omega) (by simp) (by simp)
        simpa [World.setCells] using hh
    · obtain ⟨g, o, cur, rfl, hg, hsz2⟩ := Row.In.some ho h0
      have hNm : N * m ≤ c * m := Nat.mul_le_mul_right _ hc
      have hr := run_append_room_own (P := P) w t t ty e i hu hi g o I c cur hg _ (N - J) _ hsrc (by omega) (by rw [hsz, hdl]; omega)
      rw [hsz] at hr
      have hX := ext_setRow (w := w) (b := g) (cur.toList.take (o + I * m) ++ cs.drop (J * m) ++ cur.toList.drop (o + I * m + (cs.drop (J * m)).length)).toArray
      exact ⟨_, hr, own_set ho hg (by rw [hdl, hcl]; omega), hX, fun q hq hn => hX.2.2.2.2 q hq (by rw [List.mem_singleton]; intro e1; subst e1; exact hn rfl)⟩
  obtain ⟨w', hrun, ho', hX, hfar⟩ := key
  rw [← hev2] at hrun
  rw [hev] at hx
  have hr' : (execOp a.eval (Stp.oper ⟨k + 1, none, some d, .call ⟨.builtin .append, #[x, y], #[t, t]⟩, ty⟩)).run P w = .ok (.value (subV (.slice a0 N c) m 0 (I + (N - J)))) w' := by
    generalize a.eval = ρ at hx hy
    simp only [Stp.oper, execOp, resolve, invoke, builtin, Sem.run_bind, Sem.run_pure, Result.andThen_ok, List.map_toArray, List.map_cons, List.map_nil, hx, hy, hrun]
  unfold Oper.wp
  rw [hr']
  refine ⟨okst_relX hk hX, h _ _ (he.put hd _) ?_⟩
  exact hs.turn hl hX.1 hX.2.1 hX.2.2.1 hX.2.2.2.1 hfar ho' (fun q hq => .inl hq)
theorem F_make0Z {bs : Nat} {zs : List Value} {z : Int} (hx : ev E x = some (.int .i64 0)) (hy : ev E y = some (.int .i64 z)) (hd : Nat.blt d n = true) (ht : IsEl P t e m bs zs) (hk : okk r k = true) (h0 : 0 ≤ z) (hb : (bs : Int) * z ≤ 281474976710656) (hc : z ≤ (maxLen : Int))
    (h : ∀ s, GoS P n w0 r Q ((d, s) :: E) (.row s e m 0 [] :: L) l) : GoS P n w0 r Q E L (⟨k + 1, none, some d, .makeSlice t x y, ty⟩ :: l) := by
  have ez : ((z.toNat : Nat) : Int) = z := Int.toNat_of_nonneg h0
  refine F_make0 (c := z.toNat) hx (by rw [ez]; exact hy) hd ht hk ?_ (by omega) h
  have e2 : ((bs * z.toNat : Nat) : Int) = (bs : Int) * z := by rw [Int.natCast_mul, ez]
  omega
/-- s[lo:hi] of a head of a row, up to the row's own end -/
theorem F_sliceUp {lo hi : Operand} {kl kh : IntKind} {pl ph : Int} {K : Nat} (hx : ev E x = some (subV v m 0 K)) (hd : Nat.blt d n = true) (ht : IsSl P t e m) (hn : LenOf w0 L v N) (hlo : ev E lo = some (.int kl pl)) (hhi : ev E hi = some (.int kh ph)) (h0 : 0 ≤ pl) (h1 : pl ≤ ph) (h2 : ph ≤ (N : Int))
    (h : GoS P n w0 r Q ((d, subV v m pl.toNat ph.toNat) :: E) L l) : GoS P n w0 r Q E L (⟨0, none, some d, .slice t x (some lo) (some hi) none, ty⟩ :: l) := by
  obtain ⟨hu, hi'⟩ := ht
  intro a w he hs
  refine S_read hd (fun ρ w he hs w' _ => ?_) h a w he hs
  obtain ⟨a, c, rfl, hev⟩ := subV_zero (m := m) (hi := K) (hn w hs)
  obtain ⟨_, c', hc0, hc, _⟩ := hn w hs
  cases hc0
  rw [hev] at hx
  have hx := he _ _ hx
  have hlo := he _ _ hlo
  have hhi := he _ _ hhi
  have hu2 : P.underlying t = some (.slice (P.elem t)) := by rw [hu, show P.elem t = e by simp [Program.elem, hu]]
  have he2 : P.elem t = e := by simp [Program.elem, hu]
  have hsz : ∀ w, (sizeOf e).run P w = .ok m w := fun w => by
    cases hq : P.info? e with
    | none => simp [hq] at hi'
    | some i =>
      have : i.size = m := by simpa [hq] using hi'
      simp [sizeOf, typeInfo, hq, this]
  have key : (Instr.slice t (.slice a K c) (some (.int kl pl)) (some (.int kh ph)) none).run P w' = .ok (sliced a pl.toNat ph.toNat c m) w' := by
    rw [run_slice_lh w' t a _ c hu2 kl kh pl ph h0 h1 (by omega), he2, hsz]; rfl
  have e1 := run_sliceAt_slice (P := P) w' t (.slice a K c) (some (.int kl pl)) (some (.int kh ph)) none hu2
  have e2 : (execOp ρ (Stp.oper ⟨0, none, some d, .slice t x (some lo) (some hi) none, ty⟩)) = (do pure (Next.value (← Instr.sliceAt t (ρ x) (some (ρ lo)) (some (ρ hi)) none))) := rfl
  rw [e2, hx, hlo, hhi, Sem.run_bind, e1, key]
  rfl
end
end Go.Proofs.Ytodhjpnfokkfeaa

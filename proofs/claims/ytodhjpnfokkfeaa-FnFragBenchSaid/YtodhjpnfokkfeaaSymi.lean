/- Parts of rows as rows of their own. -/
import Derived.Test.YtodhjpnfokkfeaaSymh
set_option linter.unusedSimpArgs false
set_option linter.unusedVariables false
namespace Go.Proofs.Ytodhjpnfokkfeaa
open Go Go.RowKit
theorem Row.In.part0 {w : World} {a : Option Addr} {t : TypeId} {m n c : Nat} {cs : List Value} (h : Row.In w ⟨.slice a n c, t, m, n, cs⟩) {lo hi mx : Nat} (h1 : lo ≤ hi) (h2 : hi ≤ n) (h3 : hi ≤ mx) (h4 : mx ≤ c) : Row.In w ⟨sliced a lo hi mx m, t, m, hi - lo, (cs.drop (lo * m)).take ((hi - lo) * m)⟩ ∧ ∀ k, (sliced a lo hi mx m).ownBlock = some k → (Value.slice a n c).ownBlock = some k := by
  have hmul : (hi - lo) * m = hi * m - lo * m := Nat.sub_mul _ _ _
  have hml : lo * m ≤ hi * m := Nat.mul_le_mul_right _ h1
  have hmh : hi * m ≤ n * m := Nat.mul_le_mul_right _ h2
  obtain ⟨hl, h⟩ := h
  dsimp only at hl
  have hlen : ((cs.drop (lo * m)).take ((hi - lo) * m)).length = (hi - lo) * m := by
    rw [List.length_take, List.length_drop]; omega
  rcases h with ⟨hv, hn⟩ | ⟨g, o, cap, cur, hv, hg, q1, q2, q3, q4⟩
  · dsimp only at hv hn
    subst hn
    cases hv
    have e1 : hi = 0 := by omega
    have e2 : lo = 0 := by omega
    have e3 : mx = 0 := by omega
    subst e1 e2 e3
    refine ⟨⟨hlen, .inl ⟨?_, rfl⟩⟩, fun k hk => ?_⟩
    · simp [sliced]
    · simp [sliced, Value.ownBlock] at hk
  · dsimp only at hv hg q1 q2 q3 q4
    cases hv
    by_cases e : mx = lo
    · have e1 : hi = lo := by omega
      subst e1
      subst e
      have ev : sliced (some ⟨g, o, none⟩) mx mx mx m = .slice (some ⟨g, o, none⟩) (mx - mx) (mx - mx) := by simp [sliced]
      rw [ev]
      refine ⟨⟨hlen, .inr ⟨g, o, mx - mx, cur, rfl, hg, Nat.le_refl _, by omega, ?_, ?_⟩⟩, fun k hk => hk⟩
      · rw [Nat.sub_self, Nat.zero_mul]; omega
      · simp
    · have ev : sliced (some ⟨g, o, none⟩) lo hi mx m = .slice (some ⟨g, o + lo * m, none⟩) (hi - lo) (mx - lo) := by
        unfold sliced
        rw [if_neg e]
        show Value.slice (some (Addr.add _ _)) _ _ = _
        rw [Addr.add_lit]
      rw [ev]
      have hmm : (mx - lo) * m = mx * m - lo * m := Nat.sub_mul _ _ _
      have hmx : mx * m ≤ c * m := Nat.mul_le_mul_right _ h4
      have hlm : lo * m ≤ mx * m := Nat.mul_le_mul_right _ (by omega)
      refine ⟨⟨hlen, .inr ⟨g, o + lo * m, mx - lo, cur, rfl, hg, ?_, ?_, ?_, ?_⟩⟩, fun k hk => hk⟩
      · show hi - lo ≤ mx - lo; omega
      · show mx - lo ≤ maxLen; omega
      · show o + lo * m + (mx - lo) * m ≤ cur.size
        rw [hmm]; omega
      · show (cur.toList.drop (o + lo * m)).take ((hi - lo) * m) = _
        rw [← q4, List.drop_take, List.drop_drop, List.take_take]
        congr 1
        rw [hmul]; omega
theorem Row.In.part {w : World} {v : Value} {t : TypeId} {m n : Nat} {cs : List Value} (h : Row.In w ⟨v, t, m, n, cs⟩) {lo hi : Nat} (h1 : lo ≤ hi) (h2 : hi ≤ n) : Row.In w ⟨subV v m lo hi, t, m, hi - lo, (cs.drop (lo * m)).take ((hi - lo) * m)⟩ ∧ ∀ k, (subV v m lo hi).ownBlock = some k → v.ownBlock = some k := by
  obtain ⟨a, c, rfl, hc, _⟩ := (Row.In.mem h).1
  exact Row.In.part0 h h1 h2 (by omega) (Nat.le_refl _)
/-- cut in its capacity, too -/
def subV3 (v : Value) (m lo hi mx : Nat) : Value :=
  match v with
  | .slice a _ _ => sliced a lo hi mx m
  | _ => v
theorem Row.In.part3 {w : World} {v : Value} {t : TypeId} {m n : Nat} {cs : List Value} (h : Row.In w ⟨v, t, m, n, cs⟩) {lo hi mx : Nat} (h1 : lo ≤ hi) (h2 : hi ≤ mx) (h3 : mx ≤ n) : Row.In w ⟨subV3 v m lo hi mx, t, m, hi - lo, (cs.drop (lo * m)).take ((hi - lo) * m)⟩ ∧ ∀ k, (subV3 v m lo hi mx).ownBlock = some k → v.ownBlock = some k := by
  obtain ⟨a, c, rfl, hc, _⟩ := (Row.In.mem h).1
  exact Row.In.part0 h h1 (by omega) h2 (by omega)
theorem part_flat {α : Type} {f : α → List Value} {m : Nat} (hm : ∀ x, (f x).length = m) {l : List α} {lo hi : Nat} (h2 : hi ≤ l.length) : ((l.flatMap f).drop (lo * m)).take ((hi - lo) * m) = ((l.drop lo).take (hi - lo)).flatMap f := by
  have e0 : ∀ (l : List α) (k : Nat), k ≤ l.length → (l.flatMap f).drop (k * m) = (l.drop k).flatMap f ∧ (l.flatMap f).take (k * m) = (l.take k).flatMap f := fun l k hk => by
    have e1 : ((l.take k).flatMap f).length = k * m := by rw [flat_len hm, List.length_take]; congr 1; omega
    have e2 : l.flatMap f = (l.take k).flatMap f ++ (l.drop k).flatMap f := by rw [← List.flatMap_append, List.take_append_drop]
    rw [e2, ← e1]
    exact ⟨List.drop_left' rfl, List.take_left' rfl⟩
  rcases Nat.le_total lo hi with h | h
  · rw [(e0 l lo (by omega)).1, (e0 _ (hi - lo) (by rw [List.length_drop]; omega)).2]
  · have e : hi - lo = 0 := by omega
    rw [e]; simp
theorem Ent.swap {w0 : World} {R : List Blk} {x y : Blk} (h : ∀ w, Own w x → Own w y) (hf : ∀ k, y.foot k → x.foot k) : Ent w0 (x :: R) (y :: R) := fun w hs => by
  have h1 := hs.own _ (List.Mem.head _)
  refine ⟨hs.ext, fun z hz => ?_, ?_⟩
  · rcases List.mem_cons.1 hz with rfl | hz
    · exact ⟨fun j hj => h1.1 j (hf j hj), h _ h1.2⟩
    · exact hs.own z (List.Mem.tail _ hz)
  · have hn := List.pairwise_cons.1 hs.nd
    exact List.pairwise_cons.2 ⟨fun y hy j hj => hn.1 y hy j (hf j hj), hn.2⟩
theorem own_foot_part {v : Value} {w : World} {t : TypeId} {m n n' : Nat} {cs cs' : List Value} {v' : Value} (h : ∀ k, v'.ownBlock = some k → v.ownBlock = some k) : ∀ k, Blk.foot (.row v' t m n' cs') k → Blk.foot (.row v t m n cs) k := fun k hk => h k hk
theorem add_block (a : Addr) (k : Nat) : (a.add k).block = a.block := by
  unfold Addr.add
  split <;> rfl
/-- ownBlock of a part, whatever the world -/
theorem sub_block {a : Option Addr} {n c m lo hi mx : Nat} (k : Nat) (h : (sliced a lo hi mx m).ownBlock = some k) : (Value.slice a n c).ownBlock = some k := by
  cases a with
  | none => unfold sliced at h; split at h <;> simp [Value.ownBlock] at h
  | some a => unfold sliced at h; split at h <;> (simp [Value.ownBlock, add_block] at h ⊢; exact h)
theorem subV_block {v : Value} {m lo hi : Nat} (k : Nat) (h : (subV v m lo hi).ownBlock = some k) : v.ownBlock = some k := by
  cases v with
  | slice a n c => exact sub_block k h
  | _ => exact h
theorem subV3_block {v : Value} {m lo hi mx : Nat} (k : Nat) (h : (subV3 v m lo hi mx).ownBlock = some k) : v.ownBlock = some k := by
  cases v with
  | slice a n c => exact sub_block k h
  | _ => exact h
/-- of an own row only a part is kept -/
theorem Ent.part {w0 : World} {R : List Blk} {v : Value} {t : TypeId} {m n : Nat} {α : Type} {f : α → List Value} {l : List α} (hm : ∀ x, (f x).length = m) {lo hi : Nat} (h1 : lo ≤ hi) (h2 : hi ≤ l.length) (hn : n = l.length) : Ent w0 (.row v t m n (l.flatMap f) :: R) (.row (subV v m lo hi) t m ((l.drop lo).take (hi - lo)).length (((l.drop lo).take (hi - lo)).flatMap f) :: R) := by
  subst hn
  refine Ent.swap (fun w h => ?_) (fun k hk => subV_block k hk)
  have h3 := (Row.In.part (show Row.In w ⟨v, t, m, l.length, l.flatMap f⟩ from h) h1 h2).1
  rw [part_flat hm h2] at h3
  have e : ((l.drop lo).take (hi - lo)).length = hi - lo := by rw [List.length_take, List.length_drop]; omega
  rw [e]
  exact h3
theorem Ent.part3 {w0 : World} {R : List Blk} {v : Value} {t : TypeId} {m n : Nat} {α : Type} {f : α → List Value} {l : List α} (hm : ∀ x, (f x).length = m) {lo hi mx : Nat} (h1 : lo ≤ hi) (h2 : hi ≤ mx) (h3 : mx ≤ l.length) (hn : n = l.length) : Ent w0 (.row v t m n (l.flatMap f) :: R) (.row (subV3 v m lo hi mx) t m ((l.drop lo).take (hi - lo)).length (((l.drop lo).take (hi - lo)).flatMap f) :: R) := by
  subst hn
  refine Ent.swap (fun w h => ?_) (fun k hk => subV3_block k hk)
  have h4 := (Row.In.part3 (show Row.In w ⟨v, t, m, l.length, l.flatMap f⟩ from h) h1 h2 h3).1
  rw [part_flat hm (by omega)] at h4
  have e : ((l.drop lo).take (hi - lo)).length = hi - lo := by rw [List.length_take, List.length_drop]; omega
  rw [e]
  exact h4
section
variable {P : Program} {n : Nat} {w0 : World} {r : Option (List Nat)} {Q : Exit → Act → World → Prop} {E : List (Nat × Value)} {L : List Blk} {l : List Stp} {k d : Nat} {ty : TypeId} {x : Operand} {v : Value} {t e : TypeId} {m N : Nat}
/-- s[lo:hi:mx] -/
theorem F_slice3 {lo : Option Operand} {oh mx : Operand} {LO : Nat} {kh km : IntKind} {ph pm : Int} (hx : ev E x = some v) (hd : Nat.blt d n = true) (ht : IsSl P t e m) (hn : LenOf w0 L v N)
    (hlo : match lo with | none => LO = 0 | some o => ∃ kd p, ev E o = some (.int kd p) ∧ 0 ≤ p ∧ LO = p.toNat) (hhi : ev E oh = some (.int kh ph)) (hmx : ev E mx = some (.int km pm)) (h0 : 0 ≤ ph) (h1 : (LO : Int) ≤ ph) (h2 : ph ≤ pm) (h3 : pm ≤ (N : Int))
    (h : GoS P n w0 r Q ((d, subV3 v m LO ph.toNat pm.toNat) :: E) L l) : GoS P n w0 r Q E L (⟨0, none, some d, .slice t x lo (some oh) (some mx), ty⟩ :: l) := by
  obtain ⟨hu, hi'⟩ := ht
  intro a w he hs
  refine S_read hd (fun ρ w he hs w' _ => ?_) h a w he hs
  obtain ⟨a, c, rfl, hc, _⟩ := hn w hs
  have hx := he _ _ hx
  have hmx := he _ _ hmx
  have hhi := he _ _ hhi
  have hu2 : P.underlying t = some (.slice (P.elem t)) := by rw [hu, show P.elem t = e by simp [Program.elem, hu]]
  have he2 : P.elem t = e := by simp [Program.elem, hu]
  have hsz : ∀ w, (sizeOf e).run P w = .ok m w := fun w => by
    cases hq : P.info? e with
    | none => simp [hq] at hi'
    | some i =>
      have : i.size = m := by simpa [hq] using hi'
      simp [sizeOf, typeInfo, hq, this]
  have key : (Instr.slice t (.slice a N c) (lo.map ρ) (some (.int kh ph)) (some (.int km pm))).run P w' = .ok (sliced a LO ph.toNat pm.toNat m) w' := by
    cases lo with
    | none =>
      dsimp only at hlo
      subst hlo
      rw [Option.map_none, run_slice_hm w' t a _ c hu2 kh km ph pm h0 h2 (by omega), he2, hsz]; rfl
    | some ol =>
      obtain ⟨kd, p, hp, hp0, rfl⟩ := hlo
      rw [Option.map_some, he _ _ hp, run_slice_lhm w' t a _ c hu2 kd kh km p ph pm hp0 (by omega) h2 (by omega), he2, hsz]; rfl
  have e1 := run_sliceAt_slice (P := P) w' t (.slice a N c) (lo.map ρ) (some (.int kh ph)) (some (.int km pm)) hu2
  have e2 : (execOp ρ (Stp.oper ⟨0, none, some d, .slice t x lo (some oh) (some mx), ty⟩)) = (do pure (Next.value (← Instr.sliceAt t (ρ x) (lo.map ρ) (some (ρ oh)) (some (ρ mx))))) := rfl
  rw [e2, hx, hmx, hhi, Sem.run_bind, e1, key]
  rfl
end
end Go.Proofs.Ytodhjpnfokkfeaa

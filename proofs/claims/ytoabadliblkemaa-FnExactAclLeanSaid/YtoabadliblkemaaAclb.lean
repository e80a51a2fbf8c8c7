/- The library's sort and compaction of numbers, as steps upon an own row. -/
import Derived.Test.YtoabadliblkemaaAcla
import Derived.Test.YtoabadliblkemaaSymk
import Derived.Test.YtoabadliblkemaaShelfA
import Derived.Sort.OwnSortedInts
set_option linter.unusedSimpArgs false
set_option linter.unusedVariables false
namespace Go.Proofs.Ytoabadliblkemaa
open Go Go.RowKit
attribute [local irreducible] GoS GoC GoE GoT Mid IsEq IsFl IsSc IsRw IsSl IsEl IsSt IsFs sp Rd LenOf szR
abbrev clI (x : Int) : List Value := [.int .i64 x]
theorem flatI : ∀ l : List Int, l.flatMap clI = l.map (Value.int .i64)
  | [] => rfl
  | a :: l => by rw [List.flatMap_cons, flatI l]; rfl
open Go.Sort in
theorem heap_put {w : World} {g o n : Nat} {os : Array Obj} {cur : Array Value} {e : TypeId} {fr : Nat × Nat} (d : Array Int) (hb : w.heap[g]? = some (.cells cur e fr)) :
    (grow (putRow (Value.int .i64) (Sort.ahead w n) g o d) os).heap[g]? = some (.cells (putCells (Value.int .i64) o d cur) e fr) := by
  have hg : g < w.heap.size := (Array.getElem?_eq_some_iff.1 hb).1
  rw [heap_grow_old _ _ (by simpa using hg)]
  simp [putRow, mapBlock, Sort.ahead, Array.getElem?_modify, hb, onCells]
open Go.Sort in
theorem ext_put {w : World} {g o n : Nat} {os : Array Obj} (d : Array Int) : ExtX [g] w (grow (putRow (Value.int .i64) (Sort.ahead w n) g o d) os) := by
  refine ⟨rfl, rfl, rfl, by simp, fun k hk hne => ?_⟩
  rw [heap_grow_old _ _ (by simpa using hk)]
  have : g ≠ k := fun e => hne (by rw [e]; exact List.mem_singleton.2 rfl)
  simp [putRow, mapBlock, Sort.ahead, Array.getElem?_modify, this]
open Go.Sort in
theorem row_put {w : World} {g o n N c : Nat} {t : TypeId} {os : Array Obj} {ss ts : List Int} (h : Row.In w ⟨.slice (some ⟨g, o, none⟩) N c, t, 1, N, ss.flatMap clI⟩) (hl : ts.length = N) :
    Row.In (grow (putRow (Value.int .i64) (Sort.ahead w n) g o ts.toArray) os) ⟨.slice (some ⟨g, o, none⟩) N c, t, 1, N, ts.flatMap clI⟩ := by
  obtain ⟨h0, ⟨hv, _⟩ | ⟨g', o', c', cur, hv, hg, h1, h2, h3, h4⟩⟩ := h
  · cases hv
  cases hv
  dsimp only at h1 h2 h3 h4 hg
  refine ⟨by rw [flatI, List.length_map, hl, Nat.mul_one], .inr ⟨g, o, c, _, rfl, heap_put _ hg, h1, h2, by simp only [putCells, Array.size_mapIdx]; exact h3, ?_⟩⟩
  rw [flatI]
  dsimp only
  rw [Nat.mul_one]
  apply List.ext_getElem?
  intro j
  by_cases hj : j < ts.length
  · rw [List.getElem?_take_of_lt (by omega), List.getElem?_drop, Array.getElem?_toList]
    simp [putCells, hj, show o + j < cur.size by omega]
  · rw [List.getElem?_take_eq_none (by omega), List.getElem?_eq_none (by simp; omega)]
open Go.Sort in
theorem holds_row {w : World} {g o N c : Nat} {t : TypeId} {ss : List Int} (h : Row.In w ⟨.slice (some ⟨g, o, none⟩) N c, t, 1, N, ss.flatMap clI⟩) : Holds (Value.int .i64) w g o ss.toArray := by
  have hm := Row.In.mem h
  obtain ⟨h0, ⟨hv, _⟩ | ⟨g', o', c', cur, hv, hg, h1, h2, h3, h4⟩⟩ := h
  · cases hv
  cases hv
  intro j hj
  have hj' : j < ss.length := by simpa using hj
  refine ⟨?_, by simp [World.frozen?, hg]⟩
  obtain ⟨b, o2, c2, e2, hc⟩ := hm.2.2 j (.int .i64 ss[j]) (by rw [flatI, List.getElem?_map, List.getElem?_eq_getElem hj']; rfl)
  cases e2
  rw [hc]
  simp [hj']
theorem row_lit {w : World} {v : Value} {t : TypeId} {N : Nat} {cs : List Value} (h : Row.In w ⟨v, t, 1, N, cs⟩) (h0 : 0 < N) : ∃ g o c, v = .slice (some ⟨g, o, none⟩) N c ∧ g < w.heap.size ∧ N ≤ c ∧ v.ownBlock = some g := by
  obtain ⟨_, ⟨_, hv⟩ | ⟨g, o, c, cur, hv, hg, h1, _⟩⟩ := h
  · dsimp only at hv; omega
  · exact ⟨g, o, c, hv, (Array.getElem?_eq_some_iff.1 hg).1, h1, by dsimp only at hv; rw [hv]; rfl⟩
/-- the library's order -/
def sortI (l : List Int) : List Int := l.mergeSort fun x y => decide (x ≤ y)
theorem sort_c (v : Value) (l : List Int) (t : TypeId) (hne : 0 < l.length) (hl : l.length ≤ 1000) {w0 : World} (R : List Blk) (w : World) (hst : St w0 w ([.row v t 1 l.length (l.flatMap clI)] ++ R)) : Calls Try.prog 44 #[v] w (RetS w0 R (fun y : List Int => y = sortI l) (fun _ => .tuple #[]) (fun y => [.row v t 1 y.length (y.flatMap clI)])) := by
  have ho : Row.In w ⟨v, t, 1, l.length, l.flatMap clI⟩ := (hst.own _ (List.Mem.head _)).2
  obtain ⟨g, o, c, rfl, hg, hc, hb⟩ := row_lit ho hne
  refine (Try.slices_Sort_int g o c l w (holds_row ho) hg (by omega)).mono ?_
  rintro e w' ⟨rfl, n, os, rfl⟩
  have hlen : (sortI l).length = l.length := List.length_mergeSort l
  refine ⟨sortI l, rfl, rfl, ?_⟩
  have hX := ext_put (w := w) (g := g) (o := o) (n := n) (os := os) (sortI l).toArray
  have hr := row_put (n := n) (os := os) ho hlen
  show St w0 _ (.row (.slice (some ⟨g, o, none⟩) l.length c) t 1 (sortI l).length ((sortI l).flatMap clI) :: R)
  rw [hlen]
  exact hst.turn Upd.here hX.1 hX.2.1 hX.2.2.1 hX.2.2.2.1 (fun k hk hn => hX.2.2.2.2 k hk (by rw [List.mem_singleton]; intro e1; subst e1; exact hn hb)) hr (fun k hk => .inl hk)
theorem compact_le (l : List Int) : (Lib.compact l).length ≤ l.length := by
  unfold Lib.compact Lib.compactUpTo
  rw [List.length_map]
  exact Nat.le_trans (List.length_filter_le _ _) (by simp)
open Go.Sort in
theorem compact_c (v : Value) (l : List Int) (t : TypeId) (hne : 0 < l.length) (hl : l.length ≤ 1000) {w0 : World} (R : List Blk) (w : World) (hst : St w0 w ([.row v t 1 l.length (l.flatMap clI)] ++ R)) : Calls Try.prog 45 #[v] w (RetS w0 R (fun y : Value × List Int => y.2 = Lib.compact l) (fun y => y.1) (fun y => [.row y.1 t 1 y.2.length (y.2.flatMap clI)])) := by
  have ho : Row.In w ⟨v, t, 1, l.length, l.flatMap clI⟩ := (hst.own _ (List.Mem.head _)).2
  obtain ⟨g, o, c, rfl, hg, hc, hb⟩ := row_lit ho hne
  refine (Try.slices_Compact_int g o c l w (holds_row ho) (by omega) hc).mono ?_
  rintro e w' ⟨rfl, n, rfl⟩
  have hle := compact_le l
  have hlen : (Lib.compact l ++ List.replicate (l.length - (Lib.compact l).length) 0).length = l.length := by rw [List.length_append, List.length_replicate]; omega
  refine ⟨(.slice (some ⟨g, o, none⟩) (Lib.compact l).length c, Lib.compact l), rfl, rfl, ?_⟩
  have hX := ext_put (w := w) (g := g) (o := o) (n := n) (os := #[]) (Lib.compact l ++ List.replicate (l.length - (Lib.compact l).length) 0).toArray
  have hr := row_put (n := n) (os := #[]) ho hlen
  rw [grow_empty] at hX hr
  obtain ⟨a, c2, ev1, hev⟩ := subV_zero (m := 1) (hi := (Lib.compact l).length) (Row.In.mem hr).1
  cases ev1
  have hp := (Row.In.part hr (Nat.zero_le _) hle).1
  rw [hev, part_flat (f := clI) (m := 1) (fun _ => rfl) (by omega), List.drop_zero, Nat.sub_zero, List.take_left' rfl] at hp
  exact hst.turn Upd.here hX.1 hX.2.1 hX.2.2.1 hX.2.2.2.1 (fun k hk hn => hX.2.2.2.2 k hk (by rw [List.mem_singleton]; intro e1; subst e1; exact hn hb)) hp (fun k hk => .inl hk)
end Go.Proofs.Ytoabadliblkemaa

/- Benches: their slots looked at. -/
import Derived.Test.YtodhjpnfokkfeaaFragm
import Derived.Test.YtodhjpnfokkfeaaFraga
set_option linter.unusedSimpArgs false
set_option linter.unusedVariables false
namespace Go.Proofs.Ytodhjpnfokkfeaa
open Go Go.RowKit
attribute [local irreducible] Calls GoS GoC GoE GoT Mid IsFl IsSc IsRw IsSl IsEl IsSt IsFs sp Mem Rd LenOf szR joinC alikeC likeC
def SlotGood (now : Int) (s : CFragSlot) : Prop := 0 ≤ s.2.1 ∧ now - 5 ≤ s.2.1 ∧ s.2.1 ≤ now ∧ (joinC s.1).2 = 3 ∧ (s.2.2 = true → s.1.length = 1)
/-- pieces and payloads of each slot are short -/
def Short (l : List MFragSlot) : Prop := ∀ y ∈ l, y.1.2.length ≤ 1048576 ∧ ∀ p ∈ y.1.2, p.2.2.2.2.2.2.2.2.2.length ≤ 1048576
def headS (y : MFragSlot) : CFragPacket := headC (y.1.2.map ctFragPacket)
theorem sl_el {w : World} {v : Value} {l : List MFragSlot} (hl : Short l) (hx : Rds w (rwSFragSlot (v, l))) (i : Nat) (h : (i : Int) < (l.length : Int)) : l[i]? = some (ix l i) ∧ Rds w (rwFragSlot (ix l i)) ∧ (ix l i).1.2.length ≤ 1048576 ∧ ∀ p ∈ (ix l i).1.2, p.2.2.2.2.2.2.2.2.2.length ≤ 1048576 := by
  have hr := Rds.flatMap.1 (Rds.tail hx)
  have hx := nthD h
  have hmem := List.mem_of_getElem? hx
  exact ⟨hx, hr _ hmem, hl _ hmem⟩
theorem sl_head {w : World} {y : MFragSlot} (h : Rds w (rwFragSlot y)) (h1 : 1 ≤ y.1.2.length) (hl : ∀ p ∈ y.1.2, p.2.2.2.2.2.2.2.2.2.length ≤ 1048576) : Mem w y.1.1 9 y.1.2.length (y.1.2.flatMap clFragPacket) ∧ y.1.2[(0 : Int).toNat]? = some (ix y.1.2 0) ∧ Rds w (rwFragPacket (ix y.1.2 0)) ∧ (ix y.1.2 0).2.2.2.2.2.2.2.2.2.length ≤ 1048576 ∧ headS y = ctFragPacket (ix y.1.2 0) ∧ 0 < y.1.2.length := by
  have h2 := pk_el (v := y.1.1) (l := y.1.2) hl h 0 (by omega)
  exact ⟨Rds.head h, h2.1, h2.2.1, h2.2.2, pk_head h1, h1⟩
/-- slot i is good and later than, and unlike, those before it -/
def SlotAt (now : Int) (l : List CFragSlot) (i : Nat) : Prop := ∀ s, l[i]? = some s → SlotGood now s ∧ ∀ j r, j < i → l[j]? = some r → (j + 1 = i → r.2.1 ≤ s.2.1) ∧ likeC (headC r.1) (headC s.1) = false
def BenchGood (b : CFragBench) : Prop := 0 ≤ b.1 ∧ b.1 ≤ 1000000 ∧ b.2.length ≤ 4 ∧ ∀ i, i < b.2.length → SlotAt b.1 b.2 i
theorem sl_map {l : List MFragSlot} (i : Nat) (h : i < l.length) : (l.map ctFragSlot)[i]? = some (ctFragSlot (ix l i)) := by rw [List.getElem?_map, nthD (by omega)]; rfl
theorem slotAt_iff {now : Int} {l : List MFragSlot} {i : Nat} (h : i < l.length) : SlotAt now (l.map ctFragSlot) i ↔ SlotGood now (ctFragSlot (ix l i)) ∧ ∀ j, j < i → (j + 1 = i → (ix l j).2.1 ≤ (ix l i).2.1) ∧ likeC (headS (ix l j)) (headS (ix l i)) = false := by
  constructor
  · intro g
    have g1 := g _ (sl_map i h)
    exact ⟨g1.1, fun j hj => g1.2 j _ hj (sl_map j (by omega))⟩
  · intro g s hs
    rw [sl_map i h] at hs
    obtain rfl := Option.some.inj hs
    refine ⟨g.1, fun j r hj hr => ?_⟩
    rw [sl_map j (by omega)] at hr
    obtain rfl := Option.some.inj hr
    exact g.2 j hj
theorem good_ok {now : Int} {y : MFragSlot} (h : SlotGood now (ctFragSlot y)) : 1 ≤ y.1.2.length ∧ fragOk (headS y) = true := by
  have h1 : (joinC (y.1.2.map ctFragPacket)).2 = 3 := h.2.2.2.1
  have h2 : okJ (y.1.2.map ctFragPacket) = true := by
    cases h3 : okJ (y.1.2.map ctFragPacket)
    · rw [joinC, h3] at h1; simp at h1
    · rfl
  have h3 := okJ_iff.1 h2
  rw [List.length_map] at h3
  refine ⟨h3.1, ?_⟩
  have h4 : headS y = ctFragPacket (ix y.1.2 0) := pk_head h3.1
  have h5 := h3.2.2 _ (List.mem_of_getElem? (pk_map (l := y.1.2) 0 (by omega)))
  simp only [alikeC, Bool.and_eq_true] at h5
  rw [h4]; exact h5.1.1
theorem sub_mem {l : List MFragSlot} {i : Nat} (hi : i ≤ l.length) (y : MFragSlot) : y ∈ (l.drop 0).take ((i : Int).toNat - 0) ↔ ∃ j, j < i ∧ y = ix l j := by
  rw [List.drop_zero, show (i : Int).toNat - 0 = i by omega]
  constructor
  · intro h
    obtain ⟨j, hj⟩ := List.getElem?_of_mem h
    have hlt : j < i := by
      have := (List.getElem?_eq_some_iff.1 hj).1
      rw [List.length_take] at this; omega
    rw [List.getElem?_take_of_lt hlt, nthD (show (j : Int) < (l.length : Int) by omega)] at hj
    exact ⟨j, hlt, (Option.some.inj hj).symm⟩
  · rintro ⟨j, hj, rfl⟩
    have : (l.take i)[j]? = some (ix l j) := by rw [List.getElem?_take_of_lt hj, nthD (show (j : Int) < (l.length : Int) by omega)]
    exact List.mem_of_getElem? this
theorem sub_rds {w : World} {v : Value} {l : List MFragSlot} (hx : Rds w (rwSFragSlot (v, l))) {i : Nat} (hi : i ≤ l.length) : Rds w (rwSFragSlot (subV v 3 0 (i : Int).toNat, (l.drop 0).take ((i : Int).toNat - 0))) := by
  have hm : Mem w v 3 l.length (l.flatMap clFragSlot) := Rds.head hx
  exact Rds.cons (hm.sub (fun _ => rfl) (by omega) (by omega)) (Rds.flatMap.2 fun y hy => Rds.flatMap.1 (Rds.tail hx) y (List.mem_of_mem_drop (List.mem_of_mem_take hy)))
end Go.Proofs.Ytodhjpnfokkfeaa

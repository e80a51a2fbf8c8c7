/- The pieces of a packet without one of them; with one of them changed beside it. -/
import Derived.Test.YtodhjpnfokkfeaaFragx
set_option linter.unusedSimpArgs false
set_option linter.unusedVariables false
namespace Go.Proofs.Ytodhjpnfokkfeaa
open Go Go.RowKit
theorem cutAt_mono {c : CFragPacket} {m : Int} {i j : Nat} (h : i ≤ j) : cutAt c m i ≤ cutAt c m j := by
  unfold cutAt
  have := Nat.mul_le_mul_right (cutS c m) h
  omega
theorem lacks_3 {c : CFragPacket} {m : Int} (h : (cutC c m).2 = 0) {i : Nat} {d : CFragPacket} (hd : (cutC c m).1[i]? = some d) (h2 : 2 ≤ (cutC c m).1.length) : (joinC ((cutC c m).1.take i ++ (cutC c m).1.drop (i + 1))).2 = 3 := by
  have hp := cut_at h hd
  have hc := cut_cover h
  have h40 := cut_40 h
  have hi : i < (cutC c m).1.length := (List.getElem?_eq_some_iff.1 hd).1
  have hne := hp.some (by omega)
  have hok := ((fragOk_iff d).1 hp.piece.ok).2.2.2.2.2.1
  have hend : ∀ {j : Nat} {e : CFragPacket}, (cutC c m).1[j]? = some e → offP e = cutAt c m j ∧ endP e = cutAt c m (j + 1) := fun hj => by
    have hq := cut_at h hj
    exact ⟨hq.off, by unfold endP; rw [hq.next, hq.off]⟩
  have hin : ∀ e ∈ (cutC c m).1.take i ++ (cutC c m).1.drop (i + 1), ∃ j, j ≠ i ∧ (cutC c m).1[j]? = some e := by
    intro e he
    rcases List.mem_append.1 he with he | he
    · obtain ⟨j, hj⟩ := List.getElem?_of_mem he
      have hlt : j < i := by
        have := (List.getElem?_eq_some_iff.1 hj).1
        rw [List.length_take] at this; omega
      rw [List.getElem?_take_of_lt hlt] at hj
      exact ⟨j, by omega, hj⟩
    · obtain ⟨j, hj⟩ := List.getElem?_of_mem he
      rw [List.getElem?_drop] at hj
      exact ⟨i + 1 + j, by omega, hj⟩
  have hd2 := hend hd
  refine join_lacks (c := c) (by simp; omega) (by simp; omega) (fun e he => ?_) (.inr ⟨offP d, hok.1, ?_, fun e he => hasB_false.2 ?_⟩)
  · obtain ⟨j, _, hj⟩ := hin e he
    exact hc.piece e (List.mem_of_getElem? hj)
  · have := hp.piece.hi
    unfold endP at this
    unfold endP
    omega
  · obtain ⟨j, hji, hj⟩ := hin e he
    have he2 := hend hj
    rcases Nat.lt_or_ge j i with h5 | h5
    · have := cutAt_mono (c := c) (m := m) (show j + 1 ≤ i by omega)
      omega
    · have h6 := cutAt_mono (c := c) (m := m) (show i + 1 ≤ j by omega)
      have : endP d = offP d + ((datP d).length : Int) := rfl
      omega
def setB (d : CFragPacket) (k : Nat) (b : Int) : CFragPacket := (d.1, d.2.1, d.2.2.1, d.2.2.2.1, d.2.2.2.2.1, d.2.2.2.2.2.1, d.2.2.2.2.2.2.1, d.2.2.2.2.2.2.2.1, (datP d).set k b)
theorem other_2 {c : CFragPacket} {m : Int} (h : (cutC c m).2 = 0) {i : Nat} {d : CFragPacket} (hd : (cutC c m).1[i]? = some d) {k : Nat} (hk : k < (datP d).length) {b : Int} (hb : b ≠ ix (datP d) k) : (joinC ((cutC c m).1 ++ [setB d k b])).2 = 2 := by
  have hp := cut_at h hd
  have hc := cut_cover h
  have h40 := cut_40 h
  have hmem := List.mem_of_getElem? hd
  have e1 : offP (setB d k b) = offP d := rfl
  have e2 : (datP (setB d k b)).length = (datP d).length := by show ((datP d).set k b).length = _; rw [List.length_set]
  have e3 : endP (setB d k b) = endP d := by unfold endP; rw [e1, e2]
  have hok : fragOk (setB d k b) = true := by
    have g := (fragOk_iff d).1 hp.piece.ok
    refine (fragOk_iff _).2 ⟨g.1, g.2.1, g.2.2.1, g.2.2.2.1, g.2.2.2.2.1, ?_, ?_, g.2.2.2.2.2.2.2⟩
    · rw [e1, e3]; exact g.2.2.2.2.2.1
    · rw [e2]; exact g.2.2.2.2.2.2.1
  have h1 : okJ (cutC c m).1 = true := pieces_ok h40.1 (by omega) hc.piece
  have hh := headC_mem h40.1
  have ha : alikeC (setB d k b) (headC (cutC c m).1) = true := by
    have g := alike_iff.1 ((okJ_two.1 h1).2.2 d hmem _ hh)
    exact alike_iff.2 ⟨hok, g.2.1, g.2.2.1, g.2.2.2.1, g.2.2.2.2.1, g.2.2.2.2.2⟩
  have h2 := (join_add (by omega) h1 ha).1
  have h3 : allAgree ((cutC c m).1 ++ [setB d k b]) = false := by
    refine Bool.eq_false_iff.2 fun h3 => ?_
    have g := allAgree_iff.1 h3 (setB d k b) (by simp) d (List.mem_append_left _ hmem)
    have g2 := g.byte (offP d + (k : Int)) (by rw [e1]; omega) (by rw [e3]; unfold endP; omega) (by omega) (by unfold endP; omega)
    unfold byteP at g2
    rw [e1, show (offP d + (k : Int) - offP d).toNat = k by omega] at g2
    have g3 : ix ((datP d).set k b) k = ix (datP d) k := g2
    have g4 : ix ((datP d).set k b) k = b := by
      unfold ix
      rw [List.getElem!_eq_getElem?_getD, List.getElem?_set_self hk]; rfl
    exact hb (g4.symm.trans g3)
  unfold joinC
  rw [h2, h3]; rfl
theorem xor_ne {a b : Nat} (ha : a < 256) (hb : 1 ≤ b) (hb2 : b < 256) : a ^^^ b ≠ a ∧ a ^^^ b < 256 := by
  refine ⟨fun h => ?_, Nat.xor_lt_two_pow (n := 8) ha hb2⟩
  have h2 : a ^^^ (a ^^^ b) = a ^^^ a := by rw [h]
  rw [← Nat.xor_assoc, Nat.xor_self, Nat.zero_xor] at h2
  omega
end Go.Proofs.Ytodhjpnfokkfeaa

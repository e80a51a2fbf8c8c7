/- What pieces join to hangs neither on their order nor on one being there twice; what is joined is ok; one piece more. -/
import Derived.Test.YtodhjpnfokkfeaaFragv
set_option linter.unusedSimpArgs false
set_option linter.unusedVariables false
namespace Go.Proofs.Ytodhjpnfokkfeaa
open Go Go.RowKit
theorem alike_iff {c d : CFragPacket} : alikeC c d = true ↔ fragOk c = true ∧ fragOk d = true ∧ c.1 = d.1 ∧ c.2.1 = d.2.1 ∧ c.2.2.1 = d.2.2.1 ∧ c.2.2.2.1 = d.2.2.2.1 := by
  simp only [alikeC, likeC, Bool.and_eq_true, decide_eq_true_eq, and_assoc]
theorem endL_set {l k : List CFragPacket} (h : ∀ c ∈ l, c ∈ k) (hk : ∀ c ∈ k, ∀ d ∈ k, Agree c d) (ho : ∀ c ∈ l, 0 ≤ offP c) (he : ¬ endL l < 0) : endL k = endL l := by
  obtain ⟨c, hc, hm, h1⟩ := endL_mem ho he
  rw [endL_of hk (h c hc) hm, h1]
theorem byteL_sub {l k : List CFragPacket} (h : ∀ c ∈ l, c ∈ k) (hk : ∀ c ∈ k, ∀ d ∈ k, Agree c d) {a : Int} {c : CFragPacket} (hc : c ∈ l) (hb : hasB c a = true) : byteL l a = byteL k a := by
  rw [byteL_of (fun c hc d hd => hk c (h c hc) d (h d hd)) hc hb, byteL_of hk (h c hc) hb]
theorem full_of {l : List CFragPacket} (h : fullL l = true) {a : Nat} (ha : a < (endL l).toNat) : ∃ c ∈ l, hasB c (a : Int) = true := List.any_eq_true.1 (List.all_eq_true.1 h a (List.mem_range.2 ha))
theorem off_of {l : List CFragPacket} (h : okJ l = true) : ∀ c ∈ l, 0 ≤ offP c := fun c hc => ((fragOk_iff c).1 (alike_iff.1 ((okJ_iff.1 h).2.2 c hc)).1).2.2.2.2.2.1.1
theorem data_set {l k : List CFragPacket} (h : ∀ c ∈ l, c ∈ k) (hk : ∀ c ∈ k, ∀ d ∈ k, Agree c d) (ho : ∀ c ∈ l, 0 ≤ offP c) (he : ¬ endL l < 0) (hf : fullL l = true) : fullL k = true ∧ datP (wholeC k) = datP (wholeC l) := by
  have h1 := endL_set h hk ho he
  refine ⟨List.all_eq_true.2 fun a ha => ?_, ?_⟩
  · rw [h1, List.mem_range] at ha
    obtain ⟨c, hc, hb⟩ := full_of hf ha
    exact List.any_eq_true.2 ⟨c, h c hc, hb⟩
  · show (List.range (endL k).toNat).map (fun a : Nat => byteL k (a : Int)) = (List.range (endL l).toNat).map (fun a : Nat => byteL l (a : Int))
    rw [h1]
    refine List.map_congr_left fun a ha => ?_
    obtain ⟨c, hc, hb⟩ := full_of hf (List.mem_range.1 ha)
    exact (byteL_sub h hk hc hb).symm
theorem join_0 {l : List CFragPacket} (h : (joinC l).2 = 0) : okJ l = true ∧ allAgree l = true ∧ ¬ endL l < 0 ∧ fullL l = true ∧ (joinC l).1 = wholeC l := by
  unfold joinC at h ⊢
  split at h
  · rename_i h1
    split at h
    · rename_i h2
      split at h
      · simp at h
      · rename_i h3
        split at h
        · rename_i h4
          exact ⟨h1, h2, h3, h4, by rw [if_pos h1, if_pos h2, if_neg h3, if_pos h4]⟩
        · simp at h
    · simp at h
  · simp at h
end Go.Proofs.Ytodhjpnfokkfeaa

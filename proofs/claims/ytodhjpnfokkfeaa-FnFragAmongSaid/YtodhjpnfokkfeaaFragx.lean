/- What pieces join to hangs neither on their order nor on one being there twice; what is joined is ok; one piece more. -/
import Derived.Test.YtodhjpnfokkfeaaFragv
set_option linter.unusedSimpArgs false
set_option linter.unusedVariables false
namespace Go.Proofs.Ytodhjpnfokkfeaa
open Go Go.RowKit
theorem headC_mem {l : List CFragPacket} (h : 1 ≤ l.length) : headC l ∈ l := by
  match l, h with
  | e :: l, _ => simp [headC]
theorem alike_iff {c d : CFragPacket} : alikeC c d = true ↔ fragOk c = true ∧ fragOk d = true ∧ c.1 = d.1 ∧ c.2.1 = d.2.1 ∧ c.2.2.1 = d.2.2.1 ∧ c.2.2.2.1 = d.2.2.2.1 := by
  simp only [alikeC, likeC, Bool.and_eq_true, decide_eq_true_eq, and_assoc]
theorem okJ_two {l : List CFragPacket} : okJ l = true ↔ 1 ≤ l.length ∧ l.length ≤ 40 ∧ ∀ c ∈ l, ∀ d ∈ l, alikeC c d = true := by
  rw [okJ_iff]
  constructor
  · rintro ⟨h1, h2, h3⟩
    refine ⟨h1, h2, fun c hc d hd => ?_⟩
    have k1 := alike_iff.1 (h3 c hc)
    have k2 := alike_iff.1 (h3 d hd)
    exact alike_iff.2 ⟨k1.1, k2.1, k1.2.2.1.trans k2.2.2.1.symm, k1.2.2.2.1.trans k2.2.2.2.1.symm, k1.2.2.2.2.1.trans k2.2.2.2.2.1.symm, k1.2.2.2.2.2.trans k2.2.2.2.2.2.symm⟩
  · rintro ⟨h1, h2, h3⟩
    exact ⟨h1, h2, fun c hc => h3 c hc _ (headC_mem h1)⟩
theorem minHops_le : ∀ {l : List CFragPacket} {h : Int}, minHops l h ≤ h ∧ ∀ d ∈ l, minHops l h ≤ d.2.2.2.2.1
  | [], h => ⟨Int.le_refl _, fun d hd => by cases hd⟩
  | c :: l, h => by
    have ih := @minHops_le l (min h c.2.2.2.2.1)
    unfold minHops
    refine ⟨by have := ih.1; omega, fun d hd => ?_⟩
    rcases List.mem_cons.1 hd with rfl | hd
    · have := ih.1; omega
    · exact ih.2 d hd
theorem minHops_mem : ∀ {l : List CFragPacket} {h : Int}, minHops l h = h ∨ ∃ d ∈ l, minHops l h = d.2.2.2.2.1
  | [], h => .inl rfl
  | c :: l, h => by
    unfold minHops
    rcases @minHops_mem l (min h c.2.2.2.2.1) with h1 | ⟨d, hd, h1⟩
    · by_cases h2 : h ≤ c.2.2.2.2.1
      · exact .inl (by omega)
      · exact .inr ⟨c, by simp, by omega⟩
    · exact .inr ⟨d, by simp [hd], h1⟩
theorem bool_eq {a b : Bool} (h : a = true ↔ b = true) : a = b := Bool.eq_iff_iff.2 h
theorem endL_set {l k : List CFragPacket} (h : ∀ c ∈ l, c ∈ k) (hk : ∀ c ∈ k, ∀ d ∈ k, Agree c d) (ho : ∀ c ∈ l, 0 ≤ offP c) (he : ¬ endL l < 0) : endL k = endL l := by
  obtain ⟨c, hc, hm, h1⟩ := endL_mem ho he
  rw [endL_of hk (h c hc) hm, h1]
theorem byteL_sub {l k : List CFragPacket} (h : ∀ c ∈ l, c ∈ k) (hk : ∀ c ∈ k, ∀ d ∈ k, Agree c d) {a : Int} {c : CFragPacket} (hc : c ∈ l) (hb : hasB c a = true) : byteL l a = byteL k a := by
  rw [byteL_of (fun c hc d hd => hk c (h c hc) d (h d hd)) hc hb, byteL_of hk (h c hc) hb]
theorem full_of {l : List CFragPacket} (h : fullL l = true) {a : Nat} (ha : a < (endL l).toNat) : ∃ c ∈ l, hasB c (a : Int) = true := List.any_eq_true.1 (List.all_eq_true.1 h a (List.mem_range.2 ha))
theorem off_of {l : List CFragPacket} (h : okJ l = true) : ∀ c ∈ l, 0 ≤ offP c := fun c hc => ((fragOk_iff c).1 (alike_iff.1 ((okJ_iff.1 h).2.2 c hc)).1).2.2.2.2.2.1.1
theorem data_set {l k : List CFragPacket} (h : ∀ c ∈ l, c ∈ k) (hk : ∀ c ∈ k, ∀ d ∈ k, Agree c d) (ho : ∀ c ∈ l, 0 ≤ offP c) (he : ¬ endL l < 0) (hf : fullL l = true) : fullL k = true ∧ datP (wholeC k) = datP (wholeC l) := by
  have h1 := endL_set h hk ho he
  refine ⟨List.all_eq_true.2 fun a ha => ?_, ?_⟩
  · rw [h1, List.mem_range] at ha
    obtain ⟨c, hc, hb⟩ := full_of hf ha
    exact List.any_eq_true.2 ⟨c, h c hc, hb⟩
  · show (List.range (endL k).toNat).map (fun a : Nat => byteL k (a : Int)) = (List.range (endL l).toNat).map (fun a : Nat => byteL l (a : Int))
    rw [h1]
    refine List.map_congr_left fun a ha => ?_
    obtain ⟨c, hc, hb⟩ := full_of hf (List.mem_range.1 ha)
    exact (byteL_sub h hk hc hb).symm
/-- neither order nor doubling matters -/
theorem joinC_set {l k : List CFragPacket} (h : ∀ c, c ∈ l ↔ c ∈ k) (hl : l.length ≤ 40 ↔ k.length ≤ 40) : joinC l = joinC k := by
  have h1 : 1 ≤ l.length ↔ 1 ≤ k.length := by
    constructor
    · intro h1
      exact List.length_pos_of_mem ((h _).1 (headC_mem h1))
    · intro h1
      exact List.length_pos_of_mem ((h _).2 (headC_mem h1))
  have hok : okJ l = okJ k := bool_eq (by
    rw [okJ_two, okJ_two, h1, hl]
    exact ⟨fun ⟨a, b, c⟩ => ⟨a, b, fun d hd e he => c d ((h d).2 hd) e ((h e).2 he)⟩, fun ⟨a, b, c⟩ => ⟨a, b, fun d hd e he => c d ((h d).1 hd) e ((h e).1 he)⟩⟩)
  have hag : allAgree l = allAgree k := bool_eq (by
    rw [allAgree_iff, allAgree_iff]
    exact ⟨fun c d hd e he => c d ((h d).2 hd) e ((h e).2 he), fun c d hd e he => c d ((h d).1 hd) e ((h e).1 he)⟩)
  cases h2 : okJ l
  · have h3 : okJ k = false := hok ▸ h2
    unfold joinC
    rw [h2, h3]; rfl
  have h3 : okJ k = true := hok ▸ h2
  cases h4 : allAgree l
  · have h5 : allAgree k = false := hag ▸ h4
    unfold joinC
    rw [h2, h3, h4, h5]; rfl
  have h5 : allAgree k = true := hag ▸ h4
  have a1 := allAgree_iff.1 h4
  have a2 := allAgree_iff.1 h5
  have s1 : ∀ c ∈ l, c ∈ k := fun c hc => (h c).1 hc
  have s2 : ∀ c ∈ k, c ∈ l := fun c hc => (h c).2 hc
  have hE : endL l < 0 ↔ endL k < 0 := by
    constructor
    · intro h6
      refine Decidable.byContradiction fun h7 => ?_
      have := endL_set s2 a1 (off_of h3) h7
      omega
    · intro h6
      refine Decidable.byContradiction fun h7 => ?_
      have := endL_set s1 a2 (off_of h2) h7
      omega
  unfold joinC
  rw [h2, h3, h4, h5, if_pos rfl, if_pos rfl, if_pos rfl, if_pos rfl]
  by_cases h6 : endL l < 0
  · rw [if_pos h6, if_pos (hE.1 h6)]
  rw [if_neg h6, if_neg (fun h7 => h6 (hE.2 h7))]
  cases h8 : fullL l
  · cases h9 : fullL k
    · rfl
    · have := (data_set s2 a1 (off_of h3) (fun h7 => h6 (hE.2 h7)) h9).1
      rw [h8] at this; cases this
  have h9 := data_set s1 a2 (off_of h2) h6 h8
  rw [h9.1, if_pos rfl, if_pos rfl]
  have l1 := (okJ_iff.1 h2).1
  have l2 := (okJ_iff.1 h3).1
  have g := alike_iff.1 ((okJ_two.1 h2).2.2 _ (headC_mem l1) _ (s2 _ (headC_mem l2)))
  have hh : minHops l (headC l).2.2.2.2.1 = minHops k (headC k).2.2.2.2.1 := by
    have m1 := @minHops_le l (headC l).2.2.2.2.1
    have m2 := @minHops_le k (headC k).2.2.2.2.1
    have n1 : ∃ d ∈ l, minHops l (headC l).2.2.2.2.1 = d.2.2.2.2.1 := by
      rcases @minHops_mem l (headC l).2.2.2.2.1 with e | e
      · exact ⟨_, headC_mem l1, e⟩
      · exact e
    have n2 : ∃ d ∈ k, minHops k (headC k).2.2.2.2.1 = d.2.2.2.2.1 := by
      rcases @minHops_mem k (headC k).2.2.2.2.1 with e | e
      · exact ⟨_, headC_mem l2, e⟩
      · exact e
    obtain ⟨d1, k1, e1⟩ := n1
    obtain ⟨d2, k2, e2⟩ := n2
    have := m1.2 _ (s2 _ k2)
    have := m2.2 _ (s1 _ k1)
    omega
  have hw : anyWhole l = anyWhole k := bool_eq (by
    unfold anyWhole
    rw [List.any_eq_true, List.any_eq_true]
    exact ⟨fun ⟨c, hc, e⟩ => ⟨c, s1 c hc, e⟩, fun ⟨c, hc, e⟩ => ⟨c, s2 c hc, e⟩⟩)
  have hd : (List.range (endL k).toNat).map (fun a : Nat => byteL k (a : Int)) = (List.range (endL l).toNat).map (fun a : Nat => byteL l (a : Int)) := h9.2
  unfold wholeC
  rw [g.2.2.1, g.2.2.2.1, g.2.2.2.2.1, g.2.2.2.2.2, hh, hw, hd]
theorem join_codes (l : List CFragPacket) : (joinC l).2 = 0 ∨ (joinC l).2 = 1 ∨ (joinC l).2 = 2 ∨ (joinC l).2 = 3 := by
  unfold joinC
  split
  · split
    · split
      · simp
      · split <;> simp
    · simp
  · simp
theorem join_0 {l : List CFragPacket} (h : (joinC l).2 = 0) : okJ l = true ∧ allAgree l = true ∧ ¬ endL l < 0 ∧ fullL l = true ∧ (joinC l).1 = wholeC l := by
  unfold joinC at h ⊢
  split at h
  · rename_i h1
    split at h
    · rename_i h2
      split at h
      · simp at h
      · rename_i h3
        split at h
        · rename_i h4
          exact ⟨h1, h2, h3, h4, by rw [if_pos h1, if_pos h2, if_neg h3, if_pos h4]⟩
        · simp at h
    · simp at h
  · simp at h
end Go.Proofs.Ytodhjpnfokkfeaa

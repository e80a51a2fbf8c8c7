/- Benches compared by the laws; drawn benches. -/
import Derived.Test.YtodhjpnfokkfeaaFragap
import Derived.Test.YtodhjpnfokkfeaaFragaa
set_option linter.unusedSimpArgs false
set_option linter.unusedVariables false
namespace Go.Proofs.Ytodhjpnfokkfeaa
open Go Go.RowKit
/-- a drawn bench: small, its pieces small -/
def SmallB (c : CFragBench) : Prop := -70000 ≤ c.1 ∧ c.1 ≤ 2199023255552 ∧ c.2.length ≤ 4 ∧ ∀ s ∈ c.2, (1 ≤ s.1.length ∧ s.1.length ≤ 41) ∧ ∀ q ∈ s.1, SmallW q
theorem smallB_short {y : MFragBench} (h : SmallB (ctFragBench y)) : y.2.2.length ≤ 1048576 ∧ Short y.2.2 := by
  have h1 : (y.2.2.map ctFragSlot).length ≤ 4 := h.2.2.1
  rw [List.length_map] at h1
  refine ⟨by omega, short_ct fun c hc => ?_⟩
  have h2 := h.2.2.2 c hc
  exact ⟨by omega, fun q hq => Nat.le_trans (h2.2 q hq).len (by decide)⟩
theorem inI_small {s : CFragSlot} {p : CFragPacket} (hs0 : 1 ≤ s.1.length) (hs : s.1.length ≤ 40) (hq : ∀ q ∈ s.1, SmallW q) (hp : SmallW p) : (1 ≤ (inI s p).1.1.length ∧ (inI s p).1.1.length ≤ 41) ∧ ∀ q ∈ (inI s p).1.1, SmallW q := by
  unfold inI
  split
  · exact ⟨⟨by dsimp only; omega, by dsimp only; omega⟩, hq⟩
  · split
    · exact ⟨⟨by dsimp only; omega, by dsimp only; omega⟩, hq⟩
    · split
      · exact ⟨⟨by dsimp only; rw [List.length_take]; omega, by dsimp only; rw [List.length_take]; omega⟩, fun q h => hq q (List.mem_of_mem_take h)⟩
      · split
        · refine ⟨⟨by simp, by simp; omega⟩, fun q h => ?_⟩
          rcases List.mem_append.1 h with h | h
          · exact hq q h
          · rw [List.mem_singleton] at h
            rw [h]; exact hp
        · exact ⟨⟨by dsimp only; omega, by dsimp only; omega⟩, hq⟩
theorem good_len2 {now : Int} {c : CFragSlot} (h : SlotGood now c) : c.1.length ≤ 40 := by
  have h1 : (joinC c.1).2 = 3 := h.2.2.2.1
  have h2 : okJ c.1 = true := by
    cases h3 : okJ c.1
    · rw [joinC, h3] at h1; simp at h1
    · rfl
  exact (okJ_iff.1 h2).2.1
theorem take_small {n : Int} {l : List CFragSlot} {p q : CFragPacket} {c : CFragBench} {k : Int} (h : takeC n l p = (c, q, k)) (hs : SmallB (n, l)) (hp : SmallW p) : SmallB c := by
  have h0 : SmallB (0, []) := ⟨by decide, by decide, by decide, fun s hs => by cases hs⟩
  unfold takeC at h
  split at h
  · rename_i hg
    have hn := good_now hg
    have hga := good_all hg
    split at h
    · split at h
      · simp only [Prod.mk.injEq] at h
        rw [← h.1]; exact hs
      · split at h
        · simp only [Prod.mk.injEq] at h
          rw [← h.1]
          refine ⟨hs.1, hs.2.1, ?_, fun s hm => ?_⟩
          · have h4 := hs.2.2.1
            dsimp only at h4 ⊢
            rw [List.length_append, List.length_singleton]
            split
            · rw [List.length_drop]; omega
            · omega
          · rcases List.mem_append.1 hm with h5 | h5
            · refine hs.2.2.2 s ?_
              split at h5
              · exact List.mem_of_mem_drop h5
              · exact h5
            · rw [List.mem_singleton] at h5
              rw [h5]
              exact ⟨by simp, fun q hq => by rw [List.mem_singleton] at hq; rw [hq]; exact hp⟩
        · rename_i s B e
          have hl : l = l.takeWhile (npC p) ++ s :: B := by rw [← e, List.takeWhile_append_dropWhile]
          generalize l.takeWhile (npC p) = T at hl h
          have hlen : l.length = T.length + (B.length + 1) := by rw [hl]; simp
          have h4 : l.length ≤ 4 := hs.2.2.1
          have hsm : s ∈ l := by rw [hl]; simp
          have hi := inI_small (hs.2.2.2 s hsm).1.1 (good_len2 (hga s hsm)) (hs.2.2.2 s hsm).2 hp
          split at h
          · simp only [Prod.mk.injEq] at h
            rw [← h.1]
            refine ⟨hs.1, hs.2.1, by dsimp only; rw [List.length_append]; omega, fun r hr => hs.2.2.2 r ?_⟩
            show r ∈ l
            rw [hl]
            rcases List.mem_append.1 hr with h5 | h5
            · exact List.mem_append_left _ h5
            · exact List.mem_append_right _ (List.mem_cons_of_mem _ h5)
          · simp only [Prod.mk.injEq] at h
            rw [← h.1]
            refine ⟨hs.1, hs.2.1, by dsimp only; rw [List.length_append, List.length_cons]; omega, fun r hr => ?_⟩
            rcases List.mem_append.1 hr with h5 | h5
            · exact hs.2.2.2 r (by show r ∈ l; rw [hl]; exact List.mem_append_left _ h5)
            · rcases List.mem_cons.1 h5 with h5 | h5
              · rw [h5]; exact hi
              · exact hs.2.2.2 r (by show r ∈ l; rw [hl]; exact List.mem_append_right _ (List.mem_cons_of_mem _ h5))
    · simp only [Prod.mk.injEq] at h
      rw [← h.1]; exact hs
  · simp only [Prod.mk.injEq] at h
    rw [← h.1]; exact h0
attribute [local irreducible] Calls GoS GoC GoE GoT Mid IsEq IsFl IsSc IsRw IsSl IsEl IsSt IsFs sp Mem Rd LenOf szR joinC alikeC likeC takeC
end Go.Proofs.Ytodhjpnfokkfeaa

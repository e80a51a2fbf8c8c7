/- By rendezvous: the hop with the greatest score, and what it is when one hop goes. -/
import Derived.Test.YtencglgaldaaiaaFibc
import Derived.Test.YtencglgaldaaiaaFibg
set_option linter.unusedSimpArgs false
set_option linter.unusedVariables false
namespace Go.Proofs.Ytencglgaldaaiaa
open Go Go.RowKit
theorem pickF_law (l : List MFibHop) (f : Int) : ∀ k, 0 < k → pickF l f k < k ∧ (∀ i, i < k → scoreAt l f i ≤ scoreAt l f (pickF l f k)) ∧ ∀ i, i < pickF l f k → scoreAt l f i < scoreAt l f (pickF l f k)
  | 0, h => by omega
  | 1, _ => by
    have e : pickF l f 1 = 0 := by unfold pickF; split <;> rfl
    rw [e]
    exact ⟨by omega, fun i hi => by have : i = 0 := by omega
                                    rw [this]; exact Int.le_refl _, fun i hi => by omega⟩
  | k + 2, _ => by
    obtain ⟨h1, h2, h3⟩ := pickF_law l f (k + 1) (by omega)
    by_cases hc : scoreAt l f (pickF l f (k + 1)) < scoreAt l f (k + 1)
    · rw [pickF_t hc]
      refine ⟨by omega, fun i hi => ?_, fun i hi => ?_⟩
      · rcases Nat.lt_or_ge i (k + 1) with h | h
        · have := h2 i h; omega
        · have : i = k + 1 := by omega
          rw [this]; exact Int.le_refl _
      · have := h2 i hi; omega
    · rw [pickF_f hc]
      refine ⟨by omega, fun i hi => ?_, h3⟩
      rcases Nat.lt_or_ge i (k + 1) with h | h
      · exact h2 i h
      · have : i = k + 1 := by omega
        rw [this]; omega
/-- the first of the greatest is told by that -/
theorem pickF_uniq {l : List MFibHop} {f : Int} {n j : Nat} (hj : j < n) (h2 : ∀ i, i < n → scoreAt l f i ≤ scoreAt l f j) (h3 : ∀ i, i < j → scoreAt l f i < scoreAt l f j) : pickF l f n = j := by
  obtain ⟨a1, a2, a3⟩ := pickF_law l f n (by omega)
  rcases Nat.lt_trichotomy (pickF l f n) j with h | h | h
  · have := h3 _ h
    have := a2 j hj
    omega
  · exact h
  · have := a3 _ h
    have := h2 _ a1
    omega
def lessL (l : List MFibHop) (i : Nat) : List MFibHop := l.take i ++ l.drop (i + 1)
theorem less_len {l : List MFibHop} {i : Nat} (h : i < l.length) : (lessL l i).length = l.length - 1 := by
  unfold lessL
  rw [List.length_append, List.length_take, List.length_drop]; omega
theorem less_at {l : List MFibHop} {i j : Nat} (h : i < l.length) (hj : j < l.length - 1) : ix (lessL l i) j = ix l (if j < i then j else j + 1) := by
  have e : (lessL l i)[j]? = l[if j < i then j else j + 1]? := by
    unfold lessL
    by_cases hc : j < i
    · rw [if_pos hc, List.getElem?_append_left (by rw [List.length_take]; omega), List.getElem?_take_of_lt hc]
    · rw [if_neg hc, List.getElem?_append_right (by rw [List.length_take]; omega), List.getElem?_drop]
      congr 1
      rw [List.length_take]
      omega
  rw [ix, ix, List.getElem!_eq_getElem?_getD, List.getElem!_eq_getElem?_getD, e]
theorem hopsOk_at {l : List MFibHop} (h : hopsOk l = true) {k : Nat} (hk : k < l.length) : hopAt l k = true := by
  unfold hopsOk at h
  rw [Bool.and_eq_true] at h
  exact List.all_eq_true.1 h.2 k (List.mem_range.2 hk)
theorem hopLess_trans {a b c : MFibHop} (h1 : hopLess a b = true) (h2 : hopLess b c = true) : hopLess a c = true := by
  simp only [hopLess, Bool.or_eq_true, Bool.and_eq_true, decide_eq_true_eq] at *
  omega
theorem less_ok {l : List MFibHop} {i : Nat} (h : hopsOk l = true) (hi : i < l.length) (h2 : 1 < l.length) : hopsOk (lessL l i) = true := by
  have hl := less_len hi
  have hll := hopsOk_len h
  have hat := fun k hk => hopsOk_at (k := k) h hk
  have hok : ∀ k, k < l.length → hopOk (ix l k).1 (ix l k).2 = true := fun k hk => by
    have := hat k hk
    unfold hopAt at this
    rw [Bool.and_eq_true] at this
    exact this.1
  have hls : ∀ k, k + 1 < l.length → hopLess (ix l k) (ix l (k + 1)) = true := fun k hk => by
    have := hat (k + 1) hk
    unfold hopAt at this
    rw [Bool.and_eq_true] at this
    simpa using this.2
  unfold hopsOk
  rw [Bool.and_eq_true]
  refine ⟨?_, List.all_eq_true.2 fun j hj => ?_⟩
  · rw [hl]; simp [inB]; omega
  · have hj' : j < l.length - 1 := by have := List.mem_range.1 hj; omega
    unfold hopAt
    rw [less_at hi hj', Bool.and_eq_true]
    refine ⟨hok _ (by split <;> omega), ?_⟩
    rw [Bool.or_eq_true]
    by_cases h0 : j = 0
    · left; exact decide_eq_true h0
    · right
      rw [less_at hi (show j - 1 < l.length - 1 by omega)]
      by_cases c1 : j < i
      · rw [if_pos c1, if_pos (by omega)]
        have := hls (j - 1) (by omega)
        rwa [show j - 1 + 1 = j by omega] at this
      · rw [if_neg c1]
        by_cases c2 : j - 1 < i
        · rw [if_pos c2]
          have e1 := hls (j - 1) (by omega)
          have e2 := hls j (by omega)
          rw [show j - 1 + 1 = j by omega] at e1
          exact hopLess_trans e1 e2
        · rw [if_neg c2, show j - 1 + 1 = j by omega]
          exact hls j (by omega)
/-- when another one goes it stays with its own -/
theorem less_pick {l : List MFibHop} {f : Int} {i : Nat} (hi : i < l.length) (h2 : 1 < l.length) (hne : i ≠ pickF l f l.length) : ix (lessL l i) (pickF (lessL l i) f (l.length - 1)) = ix l (pickF l f l.length) := by
  obtain ⟨a1, a2, a3⟩ := pickF_law l f l.length (by omega)
  obtain ⟨k, hk⟩ : ∃ k, pickF l f l.length = k := ⟨_, rfl⟩
  rw [hk] at a1 a2 a3 hne ⊢
  have hsc : ∀ j, j < l.length - 1 → scoreAt (lessL l i) f j = scoreAt l f (if j < i then j else j + 1) := fun j hj => by
    unfold scoreAt
    rw [less_at hi hj]
  obtain ⟨k', hk'⟩ : ∃ k', k' = if k < i then k else k - 1 := ⟨_, rfl⟩
  have e1 : k' < l.length - 1 ∧ (if k' < i then k' else k' + 1) = k := by
    rw [hk']
    by_cases c : k < i
    · rw [if_pos c]
      exact ⟨by omega, if_pos c⟩
    · rw [if_neg c]
      exact ⟨by omega, by rw [if_neg (by omega)]; omega⟩
  have e2 : scoreAt (lessL l i) f k' = scoreAt l f k := by rw [hsc k' e1.1, e1.2]
  have : pickF (lessL l i) f (l.length - 1) = k' := by
    refine pickF_uniq e1.1 (fun m hm => ?_) (fun m hm => ?_)
    · rw [hsc m hm, e2]
      exact a2 _ (by split <;> omega)
    · rw [hsc m (by omega), e2]
      refine a3 _ ?_
      by_cases c : k < i
      · rw [if_pos c] at hk'; split <;> omega
      · rw [if_neg c] at hk'; split <;> omega
  rw [this, less_at hi e1.1, e1.2]
end Go.Proofs.Ytencglgaldaaiaa

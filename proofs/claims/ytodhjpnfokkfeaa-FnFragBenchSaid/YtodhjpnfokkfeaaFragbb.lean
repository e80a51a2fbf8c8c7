/- A packet that comes to a bench: plain laws. -/
import Derived.Test.YtodhjpnfokkfeaaFragau
import Derived.Test.YtodhjpnfokkfeaaFragx
import Derived.Test.YtodhjpnfokkfeaaFragay
set_option linter.unusedSimpArgs false
set_option linter.unusedVariables false
namespace Go.Proofs.Ytodhjpnfokkfeaa
open Go Go.RowKit
theorem like_iff {c d : CFragPacket} : likeC c d = true ↔ c.1 = d.1 ∧ c.2.1 = d.2.1 ∧ c.2.2.1 = d.2.2.1 ∧ c.2.2.2.1 = d.2.2.2.1 := by
  simp [likeC, and_assoc]
theorem like_trans {c d e : CFragPacket} (h : likeC c d = true) (k : likeC d e = true) : likeC c e = true := by
  rw [like_iff] at *
  exact ⟨h.1.trans k.1, h.2.1.trans k.2.1, h.2.2.1.trans k.2.2.1, h.2.2.2.trans k.2.2.2⟩
theorem like_symm {c d : CFragPacket} (h : likeC c d = true) : likeC d c = true := by
  rw [like_iff] at *
  exact ⟨h.1.symm, h.2.1.symm, h.2.2.1.symm, h.2.2.2.symm⟩
/-- one of another packet: of three -/
def Other (e : CFragPacket) : Prop := (e.1 = 0 ∨ e.1 = 1 ∨ e.1 = 2) ∧ e.2.1 = 0 ∧ e.2.2.1 = 1 ∧ e.2.2.2.1 = 0
/-- a packet that is cut in two or more -/
structure CutIn (P : CFragPacket) (m : Int) : Prop where
  code : (cutC P m).2 = 0
  many : 2 ≤ (cutC P m).1.length
  off : offP P = 0
  more : moreP P = false
  src : P.1 = 9
  whole : P.2.2.2.2.2.1 = false
/-- whose a slot is -/
def Key (P : CFragPacket) (h : CFragPacket) : Prop := Other h ∨ likeC h P = true
structure Inv (P : CFragPacket) (m : Int) (l : List CFragSlot) (got : List CFragPacket) : Prop where
  good : BenchGood (0, l)
  key : ∀ s ∈ l, Key P (headC s.1)
  sub : ∀ g ∈ got, g ∈ (cutC P m).1
  none : got = [] → ∀ s ∈ l, likeC (headC s.1) P = false
  some : got ≠ [] → ∃ s ∈ l, likeC (headC s.1) P = true ∧ s.2.2 = false ∧ (∀ x, x ∈ s.1 ↔ x ∈ got) ∧ s.1.Nodup
/-- no two slots are of one packet -/
theorem slot_one {n : Int} {l : List CFragSlot} (h : BenchGood (n, l)) {P : CFragPacket} {s t : CFragSlot} (hs : s ∈ l) (ht : t ∈ l) (h1 : likeC (headC s.1) P = true) (h2 : likeC (headC t.1) P = true) : s = t := by
  have hp := good_pairs h
  obtain ⟨i, hi, e1⟩ := List.getElem_of_mem hs
  obtain ⟨j, hj, e2⟩ := List.getElem_of_mem ht
  have hl : likeC (headC s.1) (headC t.1) = true := like_trans h1 (like_symm h2)
  rcases Nat.lt_trichotomy i j with h3 | h3 | h3
  · have := (List.pairwise_iff_getElem.1 hp i j hi hj h3).2
    rw [e1, e2, hl] at this; cases this
  · subst h3; exact e1.symm.trans e2
  · have := (List.pairwise_iff_getElem.1 hp j i hj hi h3).2
    rw [e1, e2, like_symm hl] at this; cases this
end Go.Proofs.Ytodhjpnfokkfeaa
namespace Go.Proofs.Ytodhjpnfokkfeaa
open Go Go.RowKit
theorem like_refl (c : CFragPacket) : likeC c c = true := like_iff.2 ⟨rfl, rfl, rfl, rfl⟩
theorem good_headC {n : Int} {l : List CFragSlot} (h : BenchGood (n, l)) {s : CFragSlot} (hs : s ∈ l) : 1 ≤ s.1.length ∧ s.1.length ≤ 40 ∧ fragOk (headC s.1) = true := by
  have h1 := (join3_ok (good_all h s hs).2.2.2.1).1
  have h2 := okJ_iff.1 h1
  refine ⟨h2.1, h2.2.1, ok_in h1 ?_⟩
  match hl : s.1, h2.1 with
  | a :: t, _ => simp [headC]
theorem good_heads {n : Int} {l : List MFragSlot} (h : BenchGood (n, l.map ctFragSlot)) : ∀ y ∈ l, 1 ≤ y.1.2.length ∧ fragOk (headS y) = true := fun y hy => by
  have h1 := good_headC h (List.mem_map_of_mem hy)
  have h2 : 1 ≤ (y.1.2.map ctFragPacket).length := h1.1
  rw [List.length_map] at h2
  exact ⟨h2, h1.2.2⟩
theorem come_told {n : Int} {l c : List CFragSlot} {p q : CFragPacket} {k : Int} (hg : BenchGood (n, l)) (ht : TakeR n l p c q k) (k0 : k = 0) (hq : q ≠ p) :
    fragOk p = true ∧ (∃ s ∈ l, likeC (headC s.1) p = true) ∧ (∀ s ∈ l, likeC (headC s.1) p = true → s.2.2 = false ∧ joinC (s.1 ++ [p]) = (q, 0)) ∧ ∀ r ∈ c, likeC (headC r.1) p = false := by
  cases ht with
  | no _ => omega
  | whole _ _ => exact absurd rfl hq
  | new _ _ _ => omega
  | put _ _ A B s e _ _ h5 => exact absurd k0 h5
  | told hf _ A B s e h3 h4 h5 =>
    have hm : s ∈ l := by rw [e]; simp
    refine ⟨hf, ⟨s, hm, h4⟩, fun t ht hl => ?_, fun r hr => ?_⟩
    · have hst := slot_one hg ht hm hl h4
      rw [hst]
      unfold inI at h5 ⊢
      by_cases c1 : s.2.2 = true
      · rw [if_pos c1] at h5; simp at h5
      rw [if_neg c1] at h5 ⊢
      by_cases c2 : p ∈ s.1
      · rw [if_pos c2] at h5; simp at h5
      rw [if_neg c2] at h5 ⊢
      by_cases c3 : s.1.length = 40 ∨ (joinC (s.1 ++ [p])).2 = 2
      · rw [if_pos c3] at h5; simp at h5
      rw [if_neg c3] at h5 ⊢
      by_cases c4 : (joinC (s.1 ++ [p])).2 = 3
      · rw [if_pos c4] at h5; simp at h5
      rw [if_neg c4] at h5 ⊢
      dsimp only at h5 ⊢
      exact ⟨by simpa using c1, Prod.ext rfl h5⟩
    · cases hl : likeC (headC r.1) p
      · rfl
      · have hrl : r ∈ l := by
          rw [e]
          rcases List.mem_append.1 hr with h | h <;> simp [h]
        have hp := good_pairs hg
        rw [e] at hp
        rcases List.mem_append.1 hr with h | h
        · rw [h3 r h] at hl; cases hl
        · have h6 := (List.pairwise_cons.1 (List.pairwise_append.1 hp).2.1).1 r h
          have h7 := h6.2
          rw [like_trans h4 (like_symm hl)] at h7; cases h7
theorem come_lost {n : Int} {l c : List CFragSlot} {p q : CFragPacket} {k : Int} (hg : BenchGood (n, l)) (ht : TakeR n l p c q k) {j : Nat} {s : CFragSlot} (hj : l[j]? = some s) (hn : alikeC (headC s.1) p = false) (hno : ∀ r ∈ c, likeC (headC r.1) (headC s.1) = false) : j = 0 ∧ l.length = 4 := by
  have hm := List.mem_of_getElem? hj
  have hnc : s ∉ c := fun h => by
    have := hno s h
    rw [like_refl] at this; cases this
  have hlk : fragOk p = true → likeC (headC s.1) p = false := fun hp => by
    unfold alikeC at hn
    rw [(good_headC hg hm).2.2, hp] at hn
    simpa using hn
  cases ht with
  | no _ => exact absurd hm hnc
  | whole _ _ => exact absurd hm hnc
  | new _ _ _ =>
    by_cases h4 : l.length = 4
    · rw [if_pos h4] at hnc
      refine ⟨?_, h4⟩
      by_cases h0 : j = 0
      · exact h0
      · exfalso
        refine hnc (List.mem_append_left _ ?_)
        have : (l.drop 1)[j - 1]? = some s := by rw [List.getElem?_drop, show 1 + (j - 1) = j by omega]; exact hj
        exact List.mem_of_getElem? this
    · rw [if_neg h4] at hnc
      exact absurd (List.mem_append_left _ hm) hnc
  | told hf _ A B t e _ h4 _ =>
    exfalso
    have hn := hlk hf
    rw [e] at hm
    rcases List.mem_append.1 hm with h | h
    · exact hnc (List.mem_append_left _ h)
    · rcases List.mem_cons.1 h with rfl | h
      · rw [h4] at hn; cases hn
      · exact hnc (List.mem_append_right _ h)
  | put hf _ A B t e _ h4 _ =>
    exfalso
    have hn := hlk hf
    rw [e] at hm
    rcases List.mem_append.1 hm with h | h
    · exact hnc (List.mem_append_left _ h)
    · rcases List.mem_cons.1 h with rfl | h
      · rw [h4] at hn; cases hn
      · exact hnc (List.mem_append_right _ (List.mem_cons_of_mem _ h))
/-- no slot -/
theorem first_neg {f : MFragSlot → Bool} {l : List MFragSlot} {k : Int} (h : firstOf f l k) (hk : k < 0) : ∀ y ∈ l, f y = false := fun y hy => by
  obtain ⟨j, hj, e⟩ := List.getElem_of_mem hy
  rcases h with ⟨_, h⟩ | ⟨i, rfl, _⟩
  · have := h j hj
    rwa [show ix l j = y by rw [← e]; simp [ix, hj]] at this
  · omega
theorem first_pos {f : MFragSlot → Bool} {l : List MFragSlot} {k : Int} (h : firstOf f l k) (hk : ¬ k < 0) : ∃ i : Nat, k = (i : Int) ∧ i < l.length ∧ f (ix l i) = true := by
  rcases h with ⟨h, _⟩ | ⟨i, h1, h2, h3, _⟩
  · omega
  · exact ⟨i, h1, h2, h3⟩
theorem first_none {f : MFragSlot → Bool} {l : List MFragSlot} {k : Int} (h : firstOf f l k) (hn : ∀ y ∈ l, f y = false) : k = -1 := by
  rcases h with ⟨h, _⟩ | ⟨i, _, h2, h3, _⟩
  · exact h
  · have := hn (ix l i) (List.mem_of_getElem? (nthD (by omega)))
    rw [h3] at this; cases this
end Go.Proofs.Ytodhjpnfokkfeaa

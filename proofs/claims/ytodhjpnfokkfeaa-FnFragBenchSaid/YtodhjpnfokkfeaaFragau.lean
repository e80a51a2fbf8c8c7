/- What a packet that is taken leaves of a good bench: it stays good: plain laws. -/
import Derived.Test.YtodhjpnfokkfeaaFragap
import Derived.Test.YtodhjpnfokkfeaaFragx
set_option linter.unusedSimpArgs false
set_option linter.unusedVariables false
namespace Go.Proofs.Ytodhjpnfokkfeaa
open Go Go.RowKit
theorem first_like (f : CFragSlot → Bool) : ∀ l : List CFragSlot, (∀ s ∈ l, f s = false) ∨ ∃ A s B, l = A ++ s :: B ∧ (∀ r ∈ A, f r = false) ∧ f s = true
  | [] => .inl fun s hs => by cases hs
  | a :: l => by
    cases ha : f a
    · rcases first_like f l with h | ⟨A, s, B, rfl, h2, h3⟩
      · exact .inl fun s hs => by
          rcases List.mem_cons.1 hs with rfl | hs
          · exact ha
          · exact h s hs
      · exact .inr ⟨a :: A, s, B, rfl, fun r hr => by
          rcases List.mem_cons.1 hr with rfl | hr
          · exact ha
          · exact h2 r hr, h3⟩
    · exact .inr ⟨[], a, l, rfl, fun r hr => (by cases hr), ha⟩
theorem join3_ok {l : List CFragPacket} (h : (joinC l).2 = 3) : okJ l = true ∧ allAgree l = true := by
  unfold joinC at h
  by_cases h1 : okJ l = true
  · rw [if_pos h1] at h
    by_cases h2 : allAgree l = true
    · exact ⟨h1, h2⟩
    · rw [if_neg h2] at h; simp at h
  · rw [if_neg h1] at h; simp at h
theorem cover_self {c : CFragPacket} (h : fragOk c = true) : Cover c [c] := ⟨by simp, fun d hd => by rw [List.mem_singleton] at hd; rw [hd]; exact PieceOf.refl h, fun a h1 h2 => ⟨c, by simp, hasB_iff.2 ⟨h1, h2⟩⟩⟩
theorem ok_in {l : List CFragPacket} (h : okJ l = true) {c : CFragPacket} (hc : c ∈ l) : fragOk c = true := (alike_iff.1 ((okJ_iff.1 h).2.2 c hc)).1
/-- of pieces that wait none is all -/
theorem fine_in {l : List CFragPacket} (h : (joinC l).2 = 3) {c : CFragPacket} (hc : c ∈ l) : ¬ (offP c = 0 ∧ moreP c = false) := by
  rintro ⟨ho, hm⟩
  obtain ⟨h1, h2⟩ := join3_ok h
  have hok := ok_in h1 hc
  have hj := join_cover (cover_self hok) (by simp) ho hm
  obtain ⟨j1, j2, j3, j4, _⟩ := join_0 (l := [c]) (by rw [hj])
  have hs : ∀ d ∈ [c], d ∈ l := fun d hd => by rw [List.mem_singleton] at hd; rw [hd]; exact hc
  have hk := allAgree_iff.1 h2
  have e := endL_set hs hk (off_of j1) j3
  have hf := (data_set hs hk (off_of j1) j3 j4).1
  unfold joinC at h
  rw [if_pos h1, if_pos h2, if_neg (by rw [e]; exact j3), if_pos hf] at h
  simp at h
theorem one3 {p : CFragPacket} (hok : fragOk p = true) (hn : ¬ (offP p = 0 ∧ moreP p = false)) : (joinC [p]).2 = 3 := by
  refine join_lacks (c := p) (by simp) (by simp) (fun d hd => by rw [List.mem_singleton] at hd; rw [hd]; exact PieceOf.refl hok) ?_
  cases hm : moreP p
  · have h0 := ((fragOk_iff p).1 hok).2.2.2.2.2.1.1
    have hp : 0 < offP p := by
      have : ¬ offP p = 0 := fun h => hn ⟨h, hm⟩
      omega
    refine .inr ⟨0, Int.le_refl _, by unfold endP; omega, fun d hd => ?_⟩
    rw [List.mem_singleton] at hd
    rw [hd, hasB_false]
    omega
  · exact .inl rfl
theorem head_snoc {l : List CFragPacket} (h : 1 ≤ l.length) (p : CFragPacket) : headC (l ++ [p]) = headC l := by
  match l, h with
  | e :: l, _ => rfl
/-- what becomes of a slot that takes a piece -/
theorem inI_good {n : Int} {s : CFragSlot} {p : CFragPacket} (hs : SlotGood n s) : (inI s p).2.2 = 0 ∨ (SlotGood n (inI s p).1 ∧ (inI s p).1.2.1 = s.2.1 ∧ headC (inI s p).1.1 = headC s.1) := by
  obtain ⟨h1, h2, h3, h4, h5⟩ := hs
  have h6 := join3_ok h4
  have hl := (okJ_iff.1 h6.1).1
  unfold inI
  by_cases c1 : s.2.2 = true
  · rw [if_pos c1]; exact .inr ⟨⟨h1, h2, h3, h4, h5⟩, rfl, rfl⟩
  rw [if_neg c1]
  by_cases c2 : p ∈ s.1
  · rw [if_pos c2]; exact .inr ⟨⟨h1, h2, h3, h4, h5⟩, rfl, rfl⟩
  rw [if_neg c2]
  by_cases c3 : s.1.length = 40 ∨ (joinC (s.1 ++ [p])).2 = 2
  · rw [if_pos c3]
    obtain ⟨l, since, bad⟩ := s
    dsimp only at *
    match l, hl with
    | e :: t, _ =>
      exact .inr ⟨⟨h1, h2, h3, one3 (ok_in h6.1 (by simp)) (fine_in h4 (by simp)), fun _ => rfl⟩, rfl, rfl⟩
  rw [if_neg c3]
  by_cases c4 : (joinC (s.1 ++ [p])).2 = 3
  · rw [if_pos c4]
    exact .inr ⟨⟨h1, h2, h3, c4, fun h => absurd h c1⟩, rfl, head_snoc hl p⟩
  · rw [if_neg c4]
    exact .inr ⟨⟨h1, h2, h3, h4, h5⟩, rfl, rfl⟩
/-- the ways in which a packet is taken on a good bench -/
inductive TakeR (n : Int) (l : List CFragSlot) (p : CFragPacket) : List CFragSlot → CFragPacket → Int → Prop
  | no (h : fragOk p = false) : TakeR n l p l (ctFragPacket zeroP) 2
  | whole (h : fragOk p = true) (h2 : offP p = 0 ∧ moreP p = false) : TakeR n l p l p 0
  | new (h : fragOk p = true) (h2 : ¬ (offP p = 0 ∧ moreP p = false)) (h3 : ∀ s ∈ l, likeC (headC s.1) p = false) : TakeR n l p ((if l.length = 4 then l.drop 1 else l) ++ [([p], n, false)]) (ctFragPacket zeroP) 3
  | told (h : fragOk p = true) (h2 : ¬ (offP p = 0 ∧ moreP p = false)) (A B : List CFragSlot) (s : CFragSlot) (e : l = A ++ s :: B) (h3 : ∀ r ∈ A, likeC (headC r.1) p = false) (h4 : likeC (headC s.1) p = true) (h5 : (inI s p).2.2 = 0) : TakeR n l p (A ++ B) (inI s p).2.1 0
  | put (h : fragOk p = true) (h2 : ¬ (offP p = 0 ∧ moreP p = false)) (A B : List CFragSlot) (s : CFragSlot) (e : l = A ++ s :: B) (h3 : ∀ r ∈ A, likeC (headC r.1) p = false) (h4 : likeC (headC s.1) p = true) (h5 : ¬ (inI s p).2.2 = 0) : TakeR n l p (A ++ (inI s p).1 :: B) (inI s p).2.1 (inI s p).2.2
theorem take_cases {n : Int} {l : List CFragSlot} (h : BenchGood (n, l)) (p : CFragPacket) : ∃ c q k, takeC n l p = ((n, c), q, k) ∧ TakeR n l p c q k := by
  cases hf : fragOk p
  · exact ⟨_, _, _, takeC_no h hf, .no hf⟩
  by_cases hw : offP p = 0 ∧ moreP p = false
  · exact ⟨_, _, _, takeC_whole h hf hw, .whole hf hw⟩
  rcases first_like (fun s => likeC (headC s.1) p) l with h3 | ⟨A, s, B, rfl, h3, h4⟩
  · exact ⟨_, _, _, takeC_new h hf hw h3, .new hf hw h3⟩
  · have e := takeC_put h hf hw h3 h4
    by_cases h5 : (inI s p).2.2 = 0
    · rw [if_pos h5] at e
      exact ⟨_, _, _, e, .told hf hw A B s rfl h3 h4 h5⟩
    · rw [if_neg h5] at e
      exact ⟨_, _, _, e, .put hf hw A B s rfl h3 h4 h5⟩
theorem take_good {n : Int} {l c : List CFragSlot} {p q : CFragPacket} {k : Int} (h : BenchGood (n, l)) (ht : TakeR n l p c q k) : BenchGood (n, c) := by
  have hp := good_pairs h
  have ha := good_all h
  have h0 : 0 ≤ n := h.1
  have h1 : n ≤ 1000000 := h.2.1
  have h4 : l.length ≤ 4 := h.2.2.1
  cases ht with
  | no _ => exact h
  | whole _ _ => exact h
  | new hf hw h3 =>
    have hsub : (if l.length = 4 then l.drop 1 else l).Sublist l := by
      split
      · exact List.drop_sublist _ _
      · exact List.Sublist.refl _
    refine good_of h0 h1 ?_ (fun s hs => ?_) ?_
    · rw [List.length_append, List.length_singleton]
      split
      · rw [List.length_drop]; omega
      · omega
    · rcases List.mem_append.1 hs with hs | hs
      · exact ha s (hsub.subset hs)
      · rw [List.mem_singleton] at hs
        rw [hs]
        exact ⟨h0, by show n - 5 ≤ n; omega, Int.le_refl _, one3 hf hw, fun h => by cases h⟩
    · rw [List.pairwise_append]
      refine ⟨List.Pairwise.sublist hsub hp, List.pairwise_singleton _ _, fun s hs r hr => ?_⟩
      rw [List.mem_singleton] at hr
      rw [hr]
      exact ⟨(ha s (hsub.subset hs)).2.2.1, h3 s (hsub.subset hs)⟩
  | told _ _ A B s e _ _ _ =>
    subst e
    have hsub : (A ++ B).Sublist (A ++ s :: B) := (List.Sublist.refl A).append (List.sublist_cons_self s B)
    exact good_of h0 h1 (Nat.le_trans hsub.length_le h4) (fun r hr => ha r (hsub.subset hr)) (List.Pairwise.sublist hsub hp)
  | put _ _ A B s e _ _ h5 =>
    subst e
    rcases inI_good (p := p) (ha s (by simp)) with h6 | ⟨g1, g2, g3⟩
    · exact absurd h6 h5
    refine good_of h0 h1 (by rw [List.length_append, List.length_cons] at h4 ⊢; exact h4) (fun r hr => ?_) ?_
    · rcases List.mem_append.1 hr with hr | hr
      · exact ha r (by simp [hr])
      · rcases List.mem_cons.1 hr with rfl | hr
        · exact g1
        · exact ha r (by simp [hr])
    · rw [List.pairwise_append, List.pairwise_cons] at hp ⊢
      obtain ⟨p1, ⟨p2, p3⟩, p4⟩ := hp
      refine ⟨p1, ⟨fun r hr => ?_, p3⟩, fun r hr t ht => ?_⟩
      · have := p2 r hr
        unfold SlotLt at this ⊢
        rw [g2, g3]; exact this
      · rcases List.mem_cons.1 ht with rfl | ht
        · have := p4 r hr s (by simp)
          unfold SlotLt at this ⊢
          rw [g2, g3]; exact this
        · exact p4 r hr t (by simp [ht])
end Go.Proofs.Ytodhjpnfokkfeaa

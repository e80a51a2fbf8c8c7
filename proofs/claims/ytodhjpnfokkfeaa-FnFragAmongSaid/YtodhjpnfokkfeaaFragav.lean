/- The pieces of one packet come among those of others: plain laws. -/
import Derived.Test.YtodhjpnfokkfeaaFragau
import Derived.Test.YtodhjpnfokkfeaaFragy
set_option linter.unusedSimpArgs false
set_option linter.unusedVariables false
namespace Go.Proofs.Ytodhjpnfokkfeaa
open Go Go.RowKit
theorem nodup_sub {α : Type} [DecidableEq α] : ∀ {l m : List α}, l.Nodup → (∀ x ∈ l, x ∈ m) → l.length ≤ m.length
  | [], _, _, _ => Nat.zero_le _
  | a :: l, m, hn, hs => by
    rw [List.nodup_cons] at hn
    have ha : a ∈ m := hs a (by simp)
    have ih := nodup_sub (l := l) (m := m.erase a) hn.2 fun x hx => by
      have hne : x ≠ a := fun e => hn.1 (e ▸ hx)
      exact (List.mem_erase_of_ne hne).2 (hs x (List.mem_cons_of_mem _ hx))
    have h2 : 0 < m.length := List.length_pos_of_mem ha
    rw [List.length_erase_of_mem ha] at ih
    rw [List.length_cons]
    omega
theorem like_iff {c d : CFragPacket} : likeC c d = true ↔ c.1 = d.1 ∧ c.2.1 = d.2.1 ∧ c.2.2.1 = d.2.2.1 ∧ c.2.2.2.1 = d.2.2.2.1 := by
  simp [likeC, and_assoc]
theorem like_trans {c d e : CFragPacket} (h : likeC c d = true) (k : likeC d e = true) : likeC c e = true := by
  rw [like_iff] at *
  exact ⟨h.1.trans k.1, h.2.1.trans k.2.1, h.2.2.1.trans k.2.2.1, h.2.2.2.trans k.2.2.2⟩
theorem like_symm {c d : CFragPacket} (h : likeC c d = true) : likeC d c = true := by
  rw [like_iff] at *
  exact ⟨h.1.symm, h.2.1.symm, h.2.2.1.symm, h.2.2.2.symm⟩
/-- one of another packet: of three -/
def Other (e : CFragPacket) : Prop := (e.1 = 0 ∨ e.1 = 1 ∨ e.1 = 2) ∧ e.2.1 = 0 ∧ e.2.2.1 = 1 ∧ e.2.2.2.1 = 0
theorem other_like {c d : CFragPacket} (h : Other c) (k : Other d) (e : c.1 = d.1) : likeC c d = true := by
  rw [like_iff]
  exact ⟨e, h.2.1.trans k.2.1.symm, h.2.2.1.trans k.2.2.1.symm, h.2.2.2.trans k.2.2.2.symm⟩
theorem other_of {c d : CFragPacket} (h : likeC c d = true) (k : Other d) : Other c := by
  rw [like_iff] at h
  exact ⟨by rw [h.1]; exact k.1, h.2.1.trans k.2.1, h.2.2.1.trans k.2.2.1, h.2.2.2.trans k.2.2.2⟩
/-- a packet that is cut in two or more -/
structure CutIn (P : CFragPacket) (m : Int) : Prop where
  code : (cutC P m).2 = 0
  many : 2 ≤ (cutC P m).1.length
  off : offP P = 0
  more : moreP P = false
  src : P.1 = 9
  whole : P.2.2.2.2.2.1 = false
theorem cut_fine {P : CFragPacket} {m : Int} (h : CutIn P m) {d : CFragPacket} (hd : d ∈ (cutC P m).1) : PieceOf P d ∧ fragOk d = true ∧ ¬ (offP d = 0 ∧ moreP d = false) ∧ likeC d P = true ∧ d.1 = 9 ∧ d.2.2.2.2.2.1 = false := by
  have hp := cut_pieces h.code d hd
  obtain ⟨i, hi⟩ := List.getElem?_of_mem hd
  have hc := cut_at h.code hi
  refine ⟨hp, hp.ok, fun hw => ?_, like_iff.2 hp.head, hp.head.1.trans h.src, hp.whole.trans h.whole⟩
  have h1 := hp.last hw.2
  obtain ⟨_, _, hcs⟩ := cutC_0 h.code
  rcases hcs with ⟨_, e⟩ | ⟨hns, _, _⟩
  · have := h.many; rw [e] at this; simp at this
  · refine hns ?_
    have h2 := hc.size
    have e1 : ((datP d).length : Int) = ((datP P).length : Int) := by
      have := h1.2
      unfold endP at this
      rw [hw.1, h.off] at this
      omega
    have hPok := ((cutC_0 h.code).1)
    unfold sizeC at h2 ⊢
    rw [if_pos hp.ok] at h2
    rw [if_pos hPok]
    unfold datP at e1
    omega
/-- whose a slot is -/
def Key (P : CFragPacket) (h : CFragPacket) : Prop := Other h ∨ likeC h P = true
structure Inv (P : CFragPacket) (m : Int) (l : List CFragSlot) (got : List CFragPacket) : Prop where
  good : BenchGood (0, l)
  key : ∀ s ∈ l, Key P (headC s.1)
  sub : ∀ g ∈ got, g ∈ (cutC P m).1
  none : got = [] → ∀ s ∈ l, likeC (headC s.1) P = false
  some : got ≠ [] → ∃ s ∈ l, likeC (headC s.1) P = true ∧ s.2.2 = false ∧ (∀ x, x ∈ s.1 ↔ x ∈ got) ∧ s.1.Nodup
theorem not9 {P : CFragPacket} {m : Int} (h : CutIn P m) {e : CFragPacket} (he : Other e) : likeC e P = false ∧ e.1 ≠ 9 := by
  have h1 : e.1 ≠ 9 := by rcases he.1 with h | h | h <;> omega
  refine ⟨?_, h1⟩
  cases hl : likeC e P
  · rfl
  · exact absurd ((like_iff.1 hl).1.trans h.src) h1
/-- no two slots are of one packet -/
theorem slot_one {n : Int} {l : List CFragSlot} (h : BenchGood (n, l)) {P : CFragPacket} {s t : CFragSlot} (hs : s ∈ l) (ht : t ∈ l) (h1 : likeC (headC s.1) P = true) (h2 : likeC (headC t.1) P = true) : s = t := by
  have hp := good_pairs h
  obtain ⟨i, hi, e1⟩ := List.getElem_of_mem hs
  obtain ⟨j, hj, e2⟩ := List.getElem_of_mem ht
  have hl : likeC (headC s.1) (headC t.1) = true := like_trans h1 (like_symm h2)
  rcases Nat.lt_trichotomy i j with h3 | h3 | h3
  · have := (List.pairwise_iff_getElem.1 hp i j hi hj h3).2
    rw [e1, e2, hl] at this; cases this
  · subst h3; exact e1.symm.trans e2
  · have := (List.pairwise_iff_getElem.1 hp j i hj hi h3).2
    rw [e1, e2, like_symm hl] at this; cases this
theorem inv_cs_agree {P : CFragPacket} {m : Int} (h : CutIn P m) {k : List CFragPacket} (hk : ∀ x ∈ k, x ∈ (cutC P m).1) (h1 : 1 ≤ k.length) (h2 : k.length ≤ 40) : (joinC k).2 ≠ 2 ∧ (joinC k).2 ≠ 1 ∧ ((joinC k).2 = 0 → joinC k = (P, 0)) := by
  have hp : ∀ x ∈ k, PieceOf P x := fun x hx => (cut_fine h (hk x hx)).1
  have ha : allAgree k = true := allAgree_iff.2 (pieces_agree hp)
  have hj := pieces_ok h1 h2 hp
  refine ⟨fun e => ?_, fun e => ?_, fun e => ?_⟩
  · unfold joinC at e
    rw [if_pos hj, if_pos ha] at e
    split at e
    · simp at e
    · split at e <;> simp at e
  · unfold joinC at e
    rw [if_pos hj, if_pos ha] at e
    split at e
    · simp at e
    · split at e <;> simp at e
  · obtain ⟨_, _, j3, j4, _⟩ := join_0 e
    obtain ⟨d, hd, hm, he⟩ := endL_mem (off_of hj) j3
    have hl := (hp d hd).last hm
    refine join_cover ⟨?_, hp, fun a h0 h3 => ?_⟩ h2 h.off h.more
    · intro e2; rw [e2] at h1; simp at h1
    · have hlt : a.toNat < (endL k).toNat := by rw [h.off] at h0; omega
      obtain ⟨c, hc, hb⟩ := full_of j4 hlt
      refine ⟨c, hc, ?_⟩
      rw [h.off] at h0
      rwa [Int.toNat_of_nonneg h0] at hb
theorem among_cut {P : CFragPacket} {m : Int} {l c : List CFragSlot} {got : List CFragPacket} {e q : CFragPacket} {k : Int} (h : CutIn P m) (hi : Inv P m l got) (he : e ∈ (cutC P m).1) (ht : TakeR 0 l e c q k) :
    (k = 0 ∧ q = P ∧ (40 < got.length + 1 ∨ ((joinC got).2 ≠ 0 ∧ joinC (got ++ [e]) = (P, 0)))) ∨ (¬ k = 0 ∧ Inv P m c (got ++ [e])) := by
  obtain ⟨ep, eo, ew, el, e9, ewh⟩ := cut_fine h he
  have hg := take_good hi.good ht
  have hsub : ∀ g ∈ got ++ [e], g ∈ (cutC P m).1 := fun g hgm => by
    rcases List.mem_append.1 hgm with hgm | hgm
    · exact hi.sub g hgm
    · rw [List.mem_singleton] at hgm; rw [hgm]; exact he
  -- the slot that the piece finds
  have find : ∀ A B s, l = A ++ s :: B → likeC (headC s.1) e = true → s.2.2 = false ∧ (∀ x, x ∈ s.1 ↔ x ∈ got) ∧ s.1.Nodup ∧ (joinC s.1).2 = 3 ∧ likeC (headC s.1) P = true := fun A B s e1 e2 => by
    have hm : s ∈ l := by rw [e1]; simp
    have hsP := like_trans e2 el
    by_cases hgn : got = []
    · have := hi.none hgn s hm
      rw [hsP] at this; cases this
    · obtain ⟨t, t1, t2, t3, t4, t5⟩ := hi.some hgn
      have := slot_one hi.good hm t1 hsP t2
      subst this
      exact ⟨t3, t4, t5, (good_all hi.good s hm).2.2.2.1, hsP⟩
  cases ht with
  | no hf => rw [eo] at hf; cases hf
  | whole _ hw => exact absurd hw ew
  | new _ _ h3 =>
    right
    have hgn : got = [] := by
      by_cases hgn : got = []
      · exact hgn
      · obtain ⟨t, t1, t2, _⟩ := hi.some hgn
        have := h3 t t1
        rw [like_trans t2 (like_symm el)] at this; cases this
    have hsl : (if l.length = 4 then l.drop 1 else l).Sublist l := by
      split
      · exact List.drop_sublist _ _
      · exact List.Sublist.refl _
    refine ⟨by omega, hg, fun s hs => ?_, hsub, fun e2 => by simp at e2, fun _ => ⟨([e], 0, false), by simp, el, rfl, fun x => by rw [hgn]; simp, by simp⟩⟩
    rcases List.mem_append.1 hs with hs | hs
    · exact hi.key s (hsl.subset hs)
    · rw [List.mem_singleton] at hs
      rw [hs]; exact .inr el
  | told _ _ A B s e1 _ h4 h5 =>
    left
    obtain ⟨s1, s2, s3, s4, _⟩ := find A B s e1 h4
    unfold inI at h5 ⊢
    rw [if_neg (by rw [s1]; decide)] at h5 ⊢
    by_cases c2 : e ∈ s.1
    · rw [if_pos c2] at h5; simp at h5
    rw [if_neg c2] at h5 ⊢
    by_cases c3 : s.1.length = 40 ∨ (joinC (s.1 ++ [e])).2 = 2
    · rw [if_pos c3] at h5; simp at h5
    rw [if_neg c3] at h5 ⊢
    by_cases c4 : (joinC (s.1 ++ [e])).2 = 3
    · rw [if_pos c4] at h5; simp at h5
    rw [if_neg c4] at h5 ⊢
    dsimp only at h5
    have hj := (okJ_iff.1 (join_0 h5).1)
    have hall : ∀ x ∈ s.1 ++ [e], x ∈ (cutC P m).1 := fun x hx => by
      rcases List.mem_append.1 hx with hx | hx
      · exact hi.sub x ((s2 x).1 hx)
      · rw [List.mem_singleton] at hx; rw [hx]; exact he
    have hP := (inv_cs_agree h hall hj.1 hj.2.1).2.2 h5
    refine ⟨rfl, by show (joinC (s.1 ++ [e])).1 = P; rw [hP], ?_⟩
    by_cases hlen : 40 < got.length + 1
    · exact .inl hlen
    · right
      have h40 := (okJ_iff.1 (join3_ok s4).1).2.1
      have e2 : joinC got = joinC s.1 := joinC_set (fun x => (s2 x).symm) ⟨fun _ => h40, fun _ => by omega⟩
      have e3 : joinC (got ++ [e]) = joinC (s.1 ++ [e]) := joinC_set (fun x => by rw [List.mem_append, List.mem_append, s2 x]) ⟨fun _ => hj.2.1, fun _ => by rw [List.length_append, List.length_singleton]; omega⟩
      exact ⟨by rw [e2, s4]; decide, by rw [e3, hP]⟩
  | put _ _ A B s e1 _ h4 h5 =>
    right
    obtain ⟨s1, s2, s3, s4, s5⟩ := find A B s e1 h4
    have hm : s ∈ l := by rw [e1]; simp
    have hgl := (okJ_iff.1 (join3_ok s4).1)
    refine ⟨h5, hg, fun r hr => ?_, hsub, fun e2 => by simp at e2, fun _ => ?_⟩
    · rcases List.mem_append.1 hr with hr | hr
      · exact hi.key r (by rw [e1]; simp [hr])
      · rcases List.mem_cons.1 hr with rfl | hr
        · rcases inI_good (p := e) (good_all hi.good s hm) with h6 | ⟨_, _, g3⟩
          · exact absurd h6 h5
          · rw [g3]; exact hi.key s hm
        · exact hi.key r (by rw [e1]; simp [hr])
    · unfold inI at h5 ⊢
      rw [if_neg (by rw [s1]; decide)] at h5 ⊢
      by_cases c2 : e ∈ s.1
      · rw [if_pos c2]
        refine ⟨s, by simp, s5, s1, fun x => ?_, s3⟩
        rw [List.mem_append, List.mem_singleton, s2 x]
        constructor
        · exact .inl
        · rintro (hx | hx)
          · exact hx
          · rw [hx]; exact (s2 e).1 c2
      rw [if_neg c2] at h5 ⊢
      have hnd : (s.1 ++ [e]).Nodup := by
        rw [List.nodup_append]
        refine ⟨s3, by simp, fun x hx y hy => ?_⟩
        rw [List.mem_singleton] at hy
        rw [hy]
        exact fun e3 => c2 (e3 ▸ hx)
      have hall : ∀ x ∈ s.1 ++ [e], x ∈ (cutC P m).1 := fun x hx => by
        rcases List.mem_append.1 hx with hx | hx
        · exact hi.sub x ((s2 x).1 hx)
        · rw [List.mem_singleton] at hx; rw [hx]; exact he
      have h32 : (s.1 ++ [e]).length ≤ 32 := Nat.le_trans (nodup_sub hnd hall) (cut_40 h.code).2
      have hag := inv_cs_agree h hall (by simp) (by omega)
      by_cases c3 : s.1.length = 40 ∨ (joinC (s.1 ++ [e])).2 = 2
      · rcases c3 with c3 | c3
        · rw [List.length_append] at h32; omega
        · exact absurd c3 hag.1
      rw [if_neg c3] at h5 ⊢
      by_cases c4 : (joinC (s.1 ++ [e])).2 = 3
      · rw [if_pos c4]
        exact ⟨(s.1 ++ [e], s.2.1, s.2.2), by simp, by show likeC (headC (s.1 ++ [e])) P = true; rw [head_snoc hgl.1]; exact s5, s1, fun x => by show x ∈ s.1 ++ [e] ↔ _; rw [List.mem_append, List.mem_append, s2 x], hnd⟩
      · rw [if_neg c4] at h5
        dsimp only at h5
        rcases join_codes (s.1 ++ [e]) with h7 | h7 | h7 | h7
        · exact absurd h7 h5
        · exact absurd h7 hag.2.1
        · exact absurd h7 hag.1
        · exact absurd h7 c4
theorem among_other {P : CFragPacket} {m : Int} {l c : List CFragSlot} {got : List CFragPacket} {e q : CFragPacket} {k : Int} (h : CutIn P m) (hi : Inv P m l got) (he : Other e) (ht : TakeR 0 l e c q k) : ¬ (k = 0 ∧ q.1 = 9) ∧ Inv P m c got := by
  obtain ⟨en, e9⟩ := not9 h he
  have hg := take_good hi.good ht
  -- the packet's own slot stays
  have keep : (∀ s ∈ l, likeC (headC s.1) P = true → s ∈ c) → (∀ s ∈ c, likeC (headC s.1) P = true → s ∈ l) → (∀ s ∈ c, Key P (headC s.1)) → Inv P m c got := fun h1 h2 h3 => by
    refine ⟨hg, h3, hi.sub, fun e1 s hs => ?_, fun e1 => ?_⟩
    · cases hl : likeC (headC s.1) P
      · rfl
      · have := hi.none e1 s (h2 s hs hl)
        rw [hl] at this; cases this
    · obtain ⟨t, t1, t2, t3⟩ := hi.some e1
      exact ⟨t, h1 t t1 t2, t2, t3⟩
  cases ht with
  | no _ => exact ⟨by omega, hi⟩
  | whole _ _ => exact ⟨fun hk => e9 hk.2, hi⟩
  | new hf hw h3 =>
    have hl4 : l.length ≠ 4 := fun h4 => by
      have hnd : (l.map fun s => (headC s.1).1).Nodup := by
        unfold List.Nodup
        rw [List.pairwise_map, List.pairwise_iff_getElem]
        intro i j hi1 hj hij e1
        have hlt := (List.pairwise_iff_getElem.1 (good_pairs hi.good) i j hi1 hj hij).2
        have ki := hi.key l[i] (List.getElem_mem _)
        have kj := hi.key l[j] (List.getElem_mem _)
        have hl : likeC (headC l[i].1) (headC l[j].1) = true := by
          rcases ki with ki | ki <;> rcases kj with kj | kj
          · exact other_like ki kj e1
          · exact absurd (e1.trans ((like_iff.1 kj).1.trans h.src)) (not9 h ki).2
          · exact absurd (e1.symm.trans ((like_iff.1 ki).1.trans h.src)) (not9 h kj).2
          · exact like_trans ki (like_symm kj)
        rw [hl] at hlt; cases hlt
      have hs : ∀ x ∈ (l.map fun s => (headC s.1).1), x ∈ ([0, 1, 2, 9] : List Int).erase e.1 := fun x hx => by
        obtain ⟨s, hs, rfl⟩ := List.mem_map.1 hx
        have hne : (headC s.1).1 ≠ e.1 := fun e1 => by
          have hno := h3 s hs
          rcases hi.key s hs with ks | ks
          · rw [other_like ks he e1] at hno; cases hno
          · exact e9 (e1.symm.trans ((like_iff.1 ks).1.trans h.src))
        refine (List.mem_erase_of_ne hne).2 ?_
        rcases hi.key s hs with ks | ks
        · rcases ks.1 with k1 | k1 | k1 <;> rw [k1] <;> simp
        · rw [(like_iff.1 ks).1, h.src]; simp
      have h5 := nodup_sub hnd hs
      have h6 : (([0, 1, 2, 9] : List Int).erase e.1).length = 3 := by
        rcases he.1 with k1 | k1 | k1 <;> rw [k1] <;> rfl
      rw [List.length_map, h6] at h5
      omega
    refine ⟨by omega, keep (fun s hs _ => ?_) (fun s hs hl => ?_) (fun s hs => ?_)⟩
    · rw [if_neg hl4]; simp [hs]
    · rw [if_neg hl4] at hs
      rcases List.mem_append.1 hs with hs | hs
      · exact hs
      · rw [List.mem_singleton] at hs
        rw [hs] at hl
        have hl2 : likeC e P = true := hl
        rw [en] at hl2; cases hl2
    · rw [if_neg hl4] at hs
      rcases List.mem_append.1 hs with hs | hs
      · exact hi.key s hs
      · rw [List.mem_singleton] at hs
        rw [hs]; exact .inl he
  | told _ _ A B s e1 _ h4 h5 =>
    have hm : s ∈ l := by rw [e1]; simp
    have hso := other_of h4 he
    refine ⟨fun hk => ?_, keep (fun t ht hl => ?_) (fun t ht _ => ?_) (fun t ht => ?_)⟩
    · -- what is told is of the other packet
      have h6 := (okJ_iff.1 (join3_ok (good_all hi.good s hm).2.2.2.1).1).1
      have hq : (inI s e).2.1.1 = (headC s.1).1 := by
        unfold inI at h5 ⊢
        by_cases c1 : s.2.2 = true
        · rw [if_pos c1] at h5; simp at h5
        rw [if_neg c1] at h5 ⊢
        by_cases c2 : e ∈ s.1
        · rw [if_pos c2] at h5; simp at h5
        rw [if_neg c2] at h5 ⊢
        by_cases c3 : s.1.length = 40 ∨ (joinC (s.1 ++ [e])).2 = 2
        · rw [if_pos c3] at h5; simp at h5
        rw [if_neg c3] at h5 ⊢
        by_cases c4 : (joinC (s.1 ++ [e])).2 = 3
        · rw [if_pos c4] at h5; simp at h5
        rw [if_neg c4] at h5 ⊢
        dsimp only at h5 ⊢
        rw [(join_0 h5).2.2.2.2]
        show (headC (s.1 ++ [e])).1 = _
        rw [head_snoc h6]
      exact (not9 h hso).2 (hq.symm.trans hk.2)
    · rw [e1] at ht
      rcases List.mem_append.1 ht with ht | ht
      · simp [ht]
      · rcases List.mem_cons.1 ht with rfl | ht
        · rw [(not9 h hso).1] at hl; cases hl
        · simp [ht]
    · rw [e1]
      rcases List.mem_append.1 ht with ht | ht <;> simp [ht]
    · refine hi.key t ?_
      rw [e1]
      rcases List.mem_append.1 ht with ht | ht <;> simp [ht]
  | put _ _ A B s e1 _ h4 h5 =>
    have hm : s ∈ l := by rw [e1]; simp
    have hso := other_of h4 he
    have hx : headC (inI s e).1.1 = headC s.1 := by
      rcases inI_good (p := e) (good_all hi.good s hm) with h6 | ⟨_, _, g3⟩
      · exact absurd h6 h5
      · exact g3
    refine ⟨fun hk => h5 hk.1, keep (fun t ht hl => ?_) (fun t ht hl => ?_) (fun t ht => ?_)⟩
    · rw [e1] at ht
      rcases List.mem_append.1 ht with ht | ht
      · simp [ht]
      · rcases List.mem_cons.1 ht with rfl | ht
        · rw [(not9 h hso).1] at hl; cases hl
        · simp [ht]
    · rw [e1]
      rcases List.mem_append.1 ht with ht | ht
      · simp [ht]
      · rcases List.mem_cons.1 ht with rfl | ht
        · rw [hx, (not9 h hso).1] at hl; cases hl
        · simp [ht]
    · rcases List.mem_append.1 ht with ht | ht
      · exact hi.key t (by rw [e1]; simp [ht])
      · rcases List.mem_cons.1 ht with rfl | ht
        · rw [hx]; exact hi.key s hm
        · exact hi.key t (by rw [e1]; simp [ht])
theorem among_end {P : CFragPacket} {m : Int} {l : List CFragSlot} {got : List CFragPacket} (h : CutIn P m) (hi : Inv P m l got) (hall : ∀ d ∈ (cutC P m).1, d ∈ got) : False := by
  have h40 := cut_40 h.code
  have hne : got ≠ [] := fun e => by
    obtain ⟨d, hd⟩ := List.exists_mem_of_length_pos (l := (cutC P m).1) (by omega)
    have := hall d hd
    rw [e] at this; cases this
  obtain ⟨s, s1, s2, s3, s4, s5⟩ := hi.some hne
  have hj := (good_all hi.good s s1).2.2.2.1
  have hlen := (okJ_iff.1 (join3_ok hj).1).2.1
  have e1 : joinC s.1 = joinC (cutC P m).1 := joinC_set (fun x => ⟨fun hx => hi.sub x ((s4 x).1 hx), fun hx => (s4 x).2 (hall x hx)⟩) ⟨fun _ => by omega, fun _ => hlen⟩
  have e2 := cut_join h.code
  rw [if_neg (by rw [h.off, h.more]; simp)] at e2
  rw [e1, e2] at hj
  cases hj
theorem inv_start (P : CFragPacket) (m : Int) : Inv P m [] [] := ⟨good_of (by omega) (by omega) (by simp) (fun s hs => by cases hs) .nil, fun s hs => (by cases hs), fun g hg => (by cases hg), fun _ s hs => (by cases hs), fun h => absurd rfl h⟩
end Go.Proofs.Ytodhjpnfokkfeaa

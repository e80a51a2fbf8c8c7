/- Pieces of one packet, in plain terms: cut, cut once more, joined, one of them away; neither order nor doubling matters. -/
import Derived.Test.YtodhjpnfokkfeaaFrage
import Derived.Test.YtodhjpnfokkfeaaFragi
set_option linter.unusedSimpArgs false
set_option linter.unusedVariables false
namespace Go.Proofs.Ytodhjpnfokkfeaa
open Go Go.RowKit
theorem fragOk_iff (c : CFragPacket) : fragOk c = true ↔ (0 ≤ c.1 ∧ c.1 ≤ 65535) ∧ (0 ≤ c.2.1 ∧ c.2.1 ≤ 65535) ∧ (1 ≤ c.2.2.1 ∧ c.2.2.1 ≤ 7) ∧ (0 ≤ c.2.2.2.1 ∧ c.2.2.2.1 ≤ 255) ∧ (1 ≤ c.2.2.2.2.1 ∧ c.2.2.2.2.1 ≤ 64) ∧ (0 ≤ offP c ∧ offP c ≤ 128 ∧ offP c % 4 = 0 ∧ endP c ≤ 128) ∧ (moreP c = true → (datP c).length ≠ 0 ∧ (datP c).length % 4 = 0) ∧ (c.2.2.2.2.2.1 = true → offP c = 0 ∧ moreP c = false) := by
  obtain ⟨a0, a1, a2, a3, a4, a5, a6, a7, l⟩ := c
  cases a5 <;> cases a7 <;> simp only [fragOk, inB, offP, moreP, datP, endP, Bool.and_eq_true, Bool.or_eq_true, decide_eq_true_eq, Bool.not_eq_true', decide_eq_false_iff_not, Bool.not_true, Bool.not_false, Bool.false_eq_true, false_or, true_or, and_true, false_implies, true_implies, reduceCtorEq, and_false, implies_true, forall_const, true_and] <;> omega
/-- a piece of a packet -/
structure PieceOf (c d : CFragPacket) : Prop where
  ok : fragOk d = true
  head : d.1 = c.1 ∧ d.2.1 = c.2.1 ∧ d.2.2.1 = c.2.2.1 ∧ d.2.2.2.1 = c.2.2.2.1
  hops : d.2.2.2.2.1 = c.2.2.2.2.1
  whole : d.2.2.2.2.2.1 = c.2.2.2.2.2.1
  lo : offP c ≤ offP d
  hi : endP d ≤ endP c
  byte : ∀ a, offP d ≤ a → a < endP d → byteP d a = byteP c a
  more : moreP d = (moreP c || decide (endP d < endP c))
theorem PieceOf.refl {c : CFragPacket} (h : fragOk c = true) : PieceOf c c := ⟨h, ⟨rfl, rfl, rfl, rfl⟩, rfl, rfl, Int.le_refl _, Int.le_refl _, fun _ _ _ => rfl, by simp⟩
theorem PieceOf.trans {c d e : CFragPacket} (h : PieceOf c d) (k : PieceOf d e) : PieceOf c e :=
  ⟨k.ok, ⟨k.head.1.trans h.head.1, k.head.2.1.trans h.head.2.1, k.head.2.2.1.trans h.head.2.2.1, k.head.2.2.2.trans h.head.2.2.2⟩, k.hops.trans h.hops, k.whole.trans h.whole, Int.le_trans h.lo k.lo, Int.le_trans k.hi h.hi, fun a h1 h2 => (k.byte a h1 h2).trans (h.byte a (by have := k.lo; omega) (by have := k.hi; omega)), by
    have h1 := h.hi
    have h2 := k.hi
    rw [k.more, h.more, Bool.or_assoc]
    congr 1
    rw [← Bool.decide_or]
    exact decide_eq_decide.2 ⟨fun h => by omega, fun h => by omega⟩⟩
theorem PieceOf.last {c d : CFragPacket} (h : PieceOf c d) (hm : moreP d = false) : moreP c = false ∧ endP d = endP c := by
  have h1 := h.more
  have h2 := h.hi
  rw [hm] at h1
  have h3 : moreP c = false ∧ decide (endP d < endP c) = false := by
    cases hc : moreP c
    · rw [hc, Bool.false_or] at h1; exact ⟨rfl, h1.symm⟩
    · rw [hc, Bool.true_or] at h1; cases h1
  have h4 := of_decide_eq_false h3.2
  exact ⟨h3.1, by omega⟩
theorem pieces_agree {c : CFragPacket} {l : List CFragPacket} (h : ∀ d ∈ l, PieceOf c d) : ∀ d ∈ l, ∀ e ∈ l, Agree d e := by
  intro d hd e he
  refine ⟨fun a h1 h2 h3 h4 => ((h d hd).byte a h1 h2).trans ((h e he).byte a h3 h4).symm, fun hm => ?_, fun hm => ?_⟩
  · have := (h d hd).last hm
    have := (h e he).hi
    omega
  · have := (h e he).last hm
    have := (h d hd).hi
    omega
theorem ix_part {l : List Int} {n s k : Nat} (h : k < s) : ix ((l.drop n).take s) k = ix l (n + k) := by
  unfold ix
  rw [List.getElem!_eq_getElem?_getD, List.getElem!_eq_getElem?_getD, List.getElem?_take_of_lt h, List.getElem?_drop]
theorem step4 {m : Int} (h : 12 ≤ m) : 4 ≤ stepC m ∧ stepC m % 4 = 0 ∧ (stepC m : Int) ≤ m - 8 := by
  unfold stepC
  omega
theorem piece_of {c : CFragPacket} {m : Int} (hm : 12 ≤ m) (hok : fragOk c = true) (hw : c.2.2.2.2.2.1 = false) {i : Nat} (hi : i * stepC m < (datP c).length) : PieceOf c (pieceC c (stepC m) (i * stepC m)) := by
  obtain ⟨s, hs⟩ : ∃ s, stepC m = s := ⟨_, rfl⟩
  have h4 := step4 hm
  rw [hs] at hi h4 ⊢
  have h5 : i * s % 4 = 0 := by rw [Nat.mul_mod, h4.2.1, Nat.mul_zero, Nat.zero_mod]
  generalize i * s = a at hi h5 ⊢
  have hk := (fragOk_iff c).1 hok
  have e1 : offP (pieceC c s a) = offP c + (a : Int) := rfl
  have e2 : datP (pieceC c s a) = ((datP c).drop a).take s := rfl
  have e3 : moreP (pieceC c s a) = (moreP c || decide (a + s < (datP c).length)) := rfl
  have e4 : (datP (pieceC c s a)).length = min s ((datP c).length - a) := by rw [e2, List.length_take, List.length_drop]
  have e5 : endP c = offP c + ((datP c).length : Int) := rfl
  have e6 : endP (pieceC c s a) = offP c + (a : Int) + ((min s ((datP c).length - a) : Nat) : Int) := by
    show offP (pieceC c s a) + ((datP (pieceC c s a)).length : Int) = _
    rw [e1, e4]
  refine ⟨(fragOk_iff _).2 ⟨hk.1, hk.2.1, hk.2.2.1, hk.2.2.2.1, hk.2.2.2.2.1, ?_, fun hmo => ?_, fun hwh => ?_⟩, ⟨rfl, rfl, rfl, rfl⟩, rfl, rfl, ?_, ?_, fun b h1 h2 => ?_, ?_⟩
  · have := hk.2.2.2.2.2.1
    rw [e1, e6]
    omega
  · have h6 := hk.2.2.2.2.2.2.1
    rw [e4]
    rw [e3, Bool.or_eq_true, decide_eq_true_eq] at hmo
    rcases hmo with h7 | h7
    · have := h6 h7; omega
    · omega
  · have : c.2.2.2.2.2.1 = true := hwh
    rw [hw] at this; cases this
  · rw [e1]; omega
  · rw [e6, e5]; omega
  · rw [e1] at h1
    rw [e6] at h2
    unfold byteP
    rw [e1, e2, ix_part (by omega)]
    congr 1
    omega
  · rw [e3, e6, e5]
    congr 1
    exact decide_eq_decide.2 ⟨fun h => by omega, fun h => by omega⟩
/-- pieces that have all bytes of a packet -/
structure Cover (c : CFragPacket) (l : List CFragPacket) : Prop where
  some : l ≠ []
  piece : ∀ d ∈ l, PieceOf c d
  all : ∀ a, offP c ≤ a → a < endP c → ∃ d ∈ l, hasB d a = true
theorem cutC_0 {c : CFragPacket} {m : Int} (h : (cutC c m).2 = 0) : fragOk c = true ∧ 12 ≤ m ∧ ((sizeC c ≤ m ∧ (cutC c m).1 = [c]) ∨ (¬ sizeC c ≤ m ∧ c.2.2.2.2.2.1 = false ∧ (cutC c m).1 = (List.range (cutN (datP c).length (stepC m))).map fun i => pieceC c (stepC m) (i * stepC m))) := by
  unfold cutC at h ⊢
  by_cases hok : fragOk c = true
  · rw [if_pos hok] at h ⊢
    by_cases h1 : m < 12
    · rw [if_pos h1] at h; simp at h
    · rw [if_neg h1] at h ⊢
      by_cases h2 : sizeC c ≤ m
      · rw [if_pos h2] at h ⊢
        exact ⟨hok, by omega, .inl ⟨h2, rfl⟩⟩
      · rw [if_neg h2] at h ⊢
        cases h3 : c.2.2.2.2.2.1
        · exact ⟨hok, by omega, .inr ⟨h2, rfl, by rw [if_neg (by simp)]; rfl⟩⟩
        · rw [h3, if_pos rfl] at h; simp at h
  · rw [if_neg hok] at h; simp at h
theorem cut_pieces {c : CFragPacket} {m : Int} (h : (cutC c m).2 = 0) : ∀ d ∈ (cutC c m).1, PieceOf c d := by
  obtain ⟨hok, hm, ⟨_, h1⟩ | ⟨_, hw, h1⟩⟩ := cutC_0 h
  · rw [h1]
    intro d hd
    rw [List.mem_singleton] at hd
    subst hd
    exact PieceOf.refl hok
  · rw [h1]
    intro d hd
    obtain ⟨i, hi, rfl⟩ := List.mem_map.1 hd
    have := step4 hm
    exact piece_of hm hok hw ((cutN_lt (by omega)).1 (List.mem_range.1 hi))
theorem cut_cover {c : CFragPacket} {m : Int} (h : (cutC c m).2 = 0) : Cover c (cutC c m).1 := by
  refine ⟨?_, cut_pieces h, fun a h1 h2 => ?_⟩
  · obtain ⟨hok, hm, ⟨_, h1⟩ | ⟨hsz, hw, h1⟩⟩ := cutC_0 h
    · rw [h1]; simp
    · rw [h1]
      have h4 := step4 hm
      have h5 : 0 < cutN (datP c).length (stepC m) := (cutN_lt (by omega)).2 (by
        have : sizeC c = 8 + ((datP c).length : Int) := by unfold sizeC; rw [if_pos hok]; rfl
        omega)
      intro h6
      have := congrArg List.length h6
      rw [List.length_map, List.length_range] at this
      simp at this; omega
  · obtain ⟨hok, hm, ⟨_, h3⟩ | ⟨hsz, hw, h3⟩⟩ := cutC_0 h
    · rw [h3]; exact ⟨c, by simp, hasB_iff.2 ⟨h1, h2⟩⟩
    · rw [h3]
      have h4 := step4 hm
      obtain ⟨s, hs⟩ : ∃ s, stepC m = s := ⟨_, rfl⟩
      rw [hs] at h4 ⊢
      obtain ⟨k, hk⟩ : ∃ k : Nat, a = offP c + (k : Int) := ⟨(a - offP c).toNat, by omega⟩
      have hkl : k < (datP c).length := by unfold endP at h2; omega
      have hd1 : k / s * s ≤ k := Nat.div_mul_le_self k s
      have hd2 : k < k / s * s + s := by
        have e1 := Nat.div_add_mod k s
        have e2 := Nat.mod_lt k (show 0 < s by omega)
        rw [Nat.mul_comm s] at e1
        omega
      refine ⟨pieceC c s (k / s * s), List.mem_map.2 ⟨k / s, List.mem_range.2 ((cutN_lt (by omega)).2 (by omega)), rfl⟩, hasB_iff.2 ⟨?_, ?_⟩⟩
      · show offP c + ((k / s * s : Nat) : Int) ≤ a; omega
      · show a < offP c + ((k / s * s : Nat) : Int) + ((((datP c).drop (k / s * s)).take s).length : Int)
        rw [List.length_take, List.length_drop]; omega
theorem pieces_ok {c : CFragPacket} {l : List CFragPacket} (h1 : 1 ≤ l.length) (h2 : l.length ≤ 40) (h : ∀ d ∈ l, PieceOf c d) : okJ l = true := by
  refine okJ_iff.2 ⟨h1, h2, fun d hd => ?_⟩
  have hh : headC l ∈ l := by
    match l, h1 with
    | e :: l, _ => simp [headC]
  have k1 := h d hd
  have k2 := h _ hh
  simp only [alikeC, likeC, Bool.and_eq_true, decide_eq_true_eq]
  exact ⟨⟨k1.ok, k2.ok⟩, ⟨⟨k1.head.1.trans k2.head.1.symm, k1.head.2.1.trans k2.head.2.1.symm⟩, k1.head.2.2.1.trans k2.head.2.2.1.symm⟩, k1.head.2.2.2.trans k2.head.2.2.2.symm⟩
/-- pieces of one packet without a byte of it -/
theorem join_lacks {c : CFragPacket} {l : List CFragPacket} (h1 : 1 ≤ l.length) (h2 : l.length ≤ 40) (h : ∀ d ∈ l, PieceOf c d) (hno : moreP c = true ∨ ∃ a, 0 ≤ a ∧ a < endP c ∧ ∀ d ∈ l, hasB d a = false) : (joinC l).2 = 3 := by
  have h3 := pieces_ok h1 h2 h
  have h4 := pieces_agree h
  unfold joinC
  rw [if_pos h3, if_pos (allAgree_iff.2 h4)]
  by_cases h5 : endL l < 0
  · rw [if_pos h5]
  · rw [if_neg h5]
    obtain ⟨d, hd, hm, he⟩ := endL_mem (fun d hd => ((fragOk_iff d).1 (h d hd).ok).2.2.2.2.2.1.1) h5
    have h6 := (h d hd).last hm
    rcases hno with h7 | ⟨a, ha0, ha1, ha2⟩
    · rw [h6.1] at h7; cases h7
    · have h8 : fullL l = false := by
        refine Bool.eq_false_iff.2 fun hf => ?_
        have := List.all_eq_true.1 hf a.toNat (List.mem_range.2 (by omega))
        obtain ⟨e, he, he2⟩ := List.any_eq_true.1 this
        rw [show ((a.toNat : Nat) : Int) = a by omega, ha2 e he] at he2
        cases he2
      rw [h8]; rfl
theorem minHops_all {h : Int} : ∀ {l : List CFragPacket}, (∀ d ∈ l, d.2.2.2.2.1 = h) → minHops l h = h
  | [], _ => rfl
  | d :: l, hl => by
    unfold minHops
    rw [hl d (by simp), Int.min_self]
    exact minHops_all fun e he => hl e (by simp [he])
/-- pieces of a whole packet that have all of it join to it -/
theorem join_cover {c : CFragPacket} {l : List CFragPacket} (hc : Cover c l) (h2 : l.length ≤ 40) (ho : offP c = 0) (hm : moreP c = false) : joinC l = (c, 0) := by
  obtain ⟨hne, h, hall⟩ := hc
  have h1 : 1 ≤ l.length := by
    cases l with
    | nil => exact absurd rfl hne
    | cons _ _ => simp
  have h3 := pieces_ok h1 h2 h
  have h4 := pieces_agree h
  have hh : headC l ∈ l := by
    match l, h1 with
    | e :: l, _ => simp [headC]
  have hE : endL l = endP c := by
    have h5 : ∃ d ∈ l, moreP d = false := by
      by_cases h6 : 0 < endP c
      · obtain ⟨d, hd, hb⟩ := hall (endP c - 1) (by omega) (by omega)
        have := hasB_iff.1 hb
        have h7 := (h d hd).more
        rw [hm, Bool.false_or, decide_eq_false (by omega)] at h7
        exact ⟨d, hd, h7⟩
      · have h7 := (h _ hh).more
        have h8 := ((fragOk_iff _).1 (h _ hh).ok).2.2.2.2.2.1
        have h9 := (h _ hh).lo
        rw [hm, Bool.false_or, decide_eq_false (by unfold endP at h6 ⊢; omega)] at h7
        exact ⟨_, hh, h7⟩
    obtain ⟨d, hd, h6⟩ := h5
    rw [endL_of h4 hd h6]
    exact ((h d hd).last h6).2
  have hn : endP c = ((datP c).length : Int) := by unfold endP; omega
  have hF : fullL l = true := by
    refine List.all_eq_true.2 fun a ha => ?_
    rw [hE, List.mem_range] at ha
    obtain ⟨d, hd, hb⟩ := hall (a : Int) (by omega) (by omega)
    exact List.any_eq_true.2 ⟨d, hd, hb⟩
  have hW : wholeC l = c := by
    have e1 := h _ hh
    have e2 : minHops l (headC l).2.2.2.2.1 = c.2.2.2.2.1 := by
      rw [e1.hops]; exact minHops_all fun d hd => (h d hd).hops
    have e3 : anyWhole l = c.2.2.2.2.2.1 := by
      cases hw : c.2.2.2.2.2.1
      · refine Bool.eq_false_iff.2 fun hf => ?_
        obtain ⟨d, hd, hf⟩ := List.any_eq_true.1 hf
        rw [(h d hd).whole, hw] at hf; cases hf
      · exact List.any_eq_true.2 ⟨_, hh, by rw [e1.whole, hw]⟩
    have e4 : (List.range (endL l).toNat).map (fun a : Nat => byteL l (a : Int)) = datP c := by
      rw [hE, hn, Int.toNat_natCast]
      refine List.ext_getElem? fun i => ?_
      by_cases hi : i < (datP c).length
      · rw [List.getElem?_map, List.getElem?_range hi]
        obtain ⟨d, hd, hb⟩ := hall (i : Int) (by omega) (by omega)
        have hb2 := hasB_iff.1 hb
        show some (byteL l (i : Int)) = _
        rw [byteL_of h4 hd hb, (h d hd).byte _ hb2.1 hb2.2, nthD (show (i : Int) < ((datP c).length : Int) by omega)]
        unfold byteP
        rw [ho, Int.sub_zero, Int.toNat_natCast]
      · rw [List.getElem?_eq_none (by rw [List.length_map, List.length_range]; omega), List.getElem?_eq_none (by omega)]
    unfold wholeC
    rw [e1.head.1, e1.head.2.1, e1.head.2.2.1, e1.head.2.2.2, e2, e3, e4, ← ho, ← hm]
    rfl
  unfold joinC
  rw [if_pos h3, if_pos (allAgree_iff.2 h4), if_neg (by unfold endP at hE; omega), if_pos hF, hW]
/-- where the pieces lie -/
def cutS (c : CFragPacket) (m : Int) : Nat := if sizeC c ≤ m then max (datP c).length 1 else stepC m
def cutAt (c : CFragPacket) (m : Int) (i : Nat) : Int := offP c + ((min (i * cutS c m) (datP c).length : Nat) : Int)
structure CutPiece (c : CFragPacket) (m : Int) (n i : Nat) (d : CFragPacket) : Prop where
  piece : PieceOf c d
  off : offP d = cutAt c m i
  next : cutAt c m (i + 1) = cutAt c m i + ((datP d).length : Int)
  more : moreP d = (moreP c || decide (i + 1 < n))
  size : sizeC d ≤ m
  again : cutC d m = ([d], 0)
  some : 1 < n → (datP d).length ≠ 0
theorem cut_40 {c : CFragPacket} {m : Int} (h : (cutC c m).2 = 0) : 1 ≤ (cutC c m).1.length ∧ (cutC c m).1.length ≤ 32 := by
  have hc := (cut_cover h).some
  obtain ⟨hok, hm, ⟨h2, h1⟩ | ⟨h2, hw, h1⟩⟩ := cutC_0 h
  · rw [h1]; simp
  · have h4 := step4 hm
    have hk := (fragOk_iff c).1 hok
    have h3 : (cutC c m).1.length ≤ 32 := by
      rw [h1, List.length_map, List.length_range]
      have h5 : ¬ 32 < cutN (datP c).length (stepC m) := fun h7 => by
        have h8 := (cutN_lt (n := (datP c).length) (i := 32) (show 0 < stepC m by omega)).1 h7
        unfold endP at hk
        omega
      omega
    refine ⟨?_, h3⟩
    cases hl : (cutC c m).1 with
    | nil => exact absurd hl hc
    | cons _ _ => simp
end Go.Proofs.Ytodhjpnfokkfeaa

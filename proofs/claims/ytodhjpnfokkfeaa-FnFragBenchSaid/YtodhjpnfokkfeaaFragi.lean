/- Pieces joined, in plain terms: whether two agree, where the packet ends, what it is. -/
import Derived.Test.YtodhjpnfokkfeaaFragc
set_option linter.unusedSimpArgs false
set_option linter.unusedVariables false
namespace Go.Proofs.Ytodhjpnfokkfeaa
open Go Go.RowKit
def offP (c : CFragPacket) : Int := c.2.2.2.2.2.2.1
def moreP (c : CFragPacket) : Bool := c.2.2.2.2.2.2.2.1
def datP (c : CFragPacket) : List Int := c.2.2.2.2.2.2.2.2
def endP (c : CFragPacket) : Int := offP c + ((datP c).length : Int)
def hasB (c : CFragPacket) (a : Int) : Bool := decide (offP c ≤ a) && decide (a < endP c)
def byteP (c : CFragPacket) (a : Int) : Int := ix (datP c) (a - offP c).toNat
theorem hasB_iff {c : CFragPacket} {a : Int} : hasB c a = true ↔ offP c ≤ a ∧ a < endP c := by simp [hasB]
theorem hasB_false {c : CFragPacket} {a : Int} : hasB c a = false ↔ ¬ (offP c ≤ a ∧ a < endP c) := by rw [← hasB_iff]; simp
/-- two pieces agree -/
structure Agree (c d : CFragPacket) : Prop where
  byte : ∀ a, offP c ≤ a → a < endP c → offP d ≤ a → a < endP d → byteP c a = byteP d a
  left : moreP c = false → endP d ≤ endP c
  right : moreP d = false → endP c ≤ endP d
theorem Agree.symm {c d : CFragPacket} (h : Agree c d) : Agree d c := ⟨fun a h1 h2 h3 h4 => (h.byte a h3 h4 h1 h2).symm, h.right, h.left⟩
theorem Agree.refl (c : CFragPacket) : Agree c c := ⟨fun _ _ _ _ _ => rfl, fun _ => Int.le_refl _, fun _ => Int.le_refl _⟩
def agreeB (c d : CFragPacket) : Bool := ((List.range (datP c).length).all fun i => !hasB d (offP c + (i : Int)) || decide (byteP c (offP c + (i : Int)) = byteP d (offP c + (i : Int)))) && (moreP c || decide (endP d ≤ endP c)) && (moreP d || decide (endP c ≤ endP d))
theorem agreeB_iff {c d : CFragPacket} : agreeB c d = true ↔ Agree c d := by
  unfold agreeB
  rw [Bool.and_eq_true, Bool.and_eq_true, List.all_eq_true]
  constructor
  · rintro ⟨⟨h1, h2⟩, h3⟩
    refine ⟨fun a k1 k2 k3 k4 => ?_, fun hm => ?_, fun hm => ?_⟩
    · have hi : (offP c + ((a - offP c).toNat : Int)) = a := by omega
      have := h1 (a - offP c).toNat (by rw [List.mem_range]; unfold endP at k2; omega)
      rw [hi] at this
      simp only [Bool.or_eq_true, Bool.not_eq_true', decide_eq_true_eq] at this
      rcases this with h | h
      · exact absurd ⟨k3, k4⟩ (hasB_false.1 h)
      · exact h
    · simpa [hm] using h2
    · simpa [hm] using h3
  · intro h
    refine ⟨⟨fun i hi => ?_, ?_⟩, ?_⟩
    · rw [List.mem_range] at hi
      cases hb : hasB d (offP c + (i : Int))
      · rfl
      · have hb' := hasB_iff.1 hb
        simp only [Bool.not_true, Bool.false_or, decide_eq_true_eq]
        exact h.byte _ (by omega) (by unfold endP; omega) hb'.1 hb'.2
    · cases hm : moreP c
      · simpa using h.left hm
      · rfl
    · cases hm : moreP d
      · simpa using h.right hm
      · rfl
theorem agreeB_f {c d : CFragPacket} : agreeB c d = false ↔ ¬ Agree c d := by rw [← agreeB_iff]; simp
/-- what one says is not against what another one says -/
def Side (c d : CFragPacket) : Prop := (∀ a, offP c ≤ a → a < endP c → offP d ≤ a → a < endP d → byteP c a = byteP d a) ∧ (moreP c = false → endP d ≤ endP c ∧ (moreP d = false → endP d = endP c))
theorem agree_side {c d : CFragPacket} : Agree c d ↔ Side c d ∧ Side d c := by
  constructor
  · intro h
    refine ⟨⟨h.byte, fun hm => ⟨h.left hm, fun hd => ?_⟩⟩, ⟨h.symm.byte, fun hm => ⟨h.right hm, fun hd => ?_⟩⟩⟩
    · have := h.left hm; have := h.right hd; omega
    · have := h.right hm; have := h.left hd; omega
  · rintro ⟨h, k⟩
    exact ⟨h.1, fun hm => (h.2 hm).1, fun hm => (k.2 hm).1⟩
/-- all agree -/
def allAgree (l : List CFragPacket) : Bool := l.all fun c => l.all fun d => agreeB c d
theorem allAgree_iff {l : List CFragPacket} : allAgree l = true ↔ ∀ c ∈ l, ∀ d ∈ l, Agree c d := by
  unfold allAgree
  rw [List.all_eq_true]
  exact ⟨fun h c hc d hd => agreeB_iff.1 (List.all_eq_true.1 (h c hc) d hd), fun h c hc => List.all_eq_true.2 fun d hd => agreeB_iff.2 (h c hc d hd)⟩
/-- where the packet ends; -1 if nobody says it -/
def endL : List CFragPacket → Int
  | [] => -1
  | c :: l => if moreP c then endL l else endP c
theorem endL_all : ∀ {l : List CFragPacket}, (∀ c ∈ l, moreP c = true) → endL l = -1
  | [], _ => rfl
  | c :: l, h => by
    have h1 := h c (by simp)
    unfold endL
    rw [if_pos h1]
    exact endL_all fun d hd => h d (by simp [hd])
theorem endL_of {c : CFragPacket} : ∀ {l : List CFragPacket}, (∀ c ∈ l, ∀ d ∈ l, Agree c d) → c ∈ l → moreP c = false → endL l = endP c
  | [], _, hc, _ => by cases hc
  | d :: l, h, hc, hm => by
    unfold endL
    cases hd : moreP d
    · simp only [Bool.false_eq_true, if_false]
      have ha := h d (by simp) c hc
      have := ha.left hd
      have := ha.right hm
      omega
    · simp only [if_true]
      have hcl : c ∈ l := by
        rcases List.mem_cons.1 hc with rfl | h'
        · rw [hd] at hm; cases hm
        · exact h'
      exact endL_of (fun a ha b hb => h a (by simp [ha]) b (by simp [hb])) hcl hm
theorem endL_mem : ∀ {l : List CFragPacket}, (∀ c ∈ l, 0 ≤ offP c) → ¬ endL l < 0 → ∃ c ∈ l, moreP c = false ∧ endP c = endL l
  | [], _, h => by simp [endL] at h
  | c :: l, ho, h => by
    unfold endL at h ⊢
    cases hm : moreP c
    · exact ⟨c, by simp, hm, by simp⟩
    · rw [hm] at h
      simp only [if_true] at h ⊢
      obtain ⟨d, hd, h1, h2⟩ := endL_mem (fun d hd => ho d (by simp [hd])) h
      exact ⟨d, by simp [hd], h1, h2⟩
/-- the first that has a byte -/
def whoL (l : List CFragPacket) (a : Int) : Option CFragPacket := l.find? fun c => hasB c a
def byteL (l : List CFragPacket) (a : Int) : Int := match whoL l a with
  | some c => byteP c a
  | none => 0
theorem byteL_of {l : List CFragPacket} {c : CFragPacket} {a : Int} (h : ∀ c ∈ l, ∀ d ∈ l, Agree c d) (hc : c ∈ l) (ha : hasB c a = true) : byteL l a = byteP c a := by
  unfold byteL whoL
  cases hf : l.find? fun c => hasB c a with
  | none => have := List.find?_eq_none.1 hf c hc; simp [ha] at this
  | some d =>
    have h1 := List.find?_some hf
    have h2 := List.mem_of_find?_eq_some hf
    have h3 := hasB_iff.1 ha
    have h4 := hasB_iff.1 h1
    exact (h d h2 c hc).byte a h4.1 h4.2 h3.1 h3.2
/-- every byte up to the end is there -/
def fullL (l : List CFragPacket) : Bool := (List.range (endL l).toNat).all fun a : Nat => l.any fun c => hasB c (a : Int)
def minHops : List CFragPacket → Int → Int
  | [], h => h
  | c :: l, h => minHops l (min h c.2.2.2.2.1)
def anyWhole (l : List CFragPacket) : Bool := l.any fun c => c.2.2.2.2.2.1
def headC (l : List CFragPacket) : CFragPacket := l.headD (ctFragPacket zeroP)
def okJ (l : List CFragPacket) : Bool := decide (1 ≤ l.length) && decide (l.length ≤ 40) && l.all fun c => alikeC c (headC l)
def wholeC (l : List CFragPacket) : CFragPacket := ((headC l).1, (headC l).2.1, (headC l).2.2.1, (headC l).2.2.2.1, minHops l (headC l).2.2.2.2.1, anyWhole l, 0, false, (List.range (endL l).toNat).map fun a : Nat => byteL l (a : Int))
/-- what pieces join to, and the code -/
def joinC (l : List CFragPacket) : CFragPacket × Int :=
  if okJ l then
    if allAgree l then
      if endL l < 0 then (ctFragPacket zeroP, 3)
      else if fullL l then (wholeC l, 0) else (ctFragPacket zeroP, 3)
    else (ctFragPacket zeroP, 2)
  else (ctFragPacket zeroP, 1)
theorem okJ_iff {l : List CFragPacket} : okJ l = true ↔ 1 ≤ l.length ∧ l.length ≤ 40 ∧ ∀ c ∈ l, alikeC c (headC l) = true := by
  simp [okJ, List.all_eq_true, and_assoc]
theorem alikeC_symm (c d : CFragPacket) : alikeC c d = alikeC d c := by
  unfold alikeC likeC
  rw [Bool.eq_iff_iff]
  simp only [Bool.and_eq_true, decide_eq_true_eq]
  constructor <;> (rintro ⟨⟨h1, h2⟩, ⟨⟨h3, h4⟩, h5⟩, h6⟩; exact ⟨⟨h2, h1⟩, ⟨⟨h3.symm, h4.symm⟩, h5.symm⟩, h6.symm⟩)
theorem minHops_snoc : ∀ (l : List CFragPacket) (c : CFragPacket) (h : Int), minHops (l ++ [c]) h = min (minHops l h) c.2.2.2.2.1
  | [], _, _ => rfl
  | d :: l, c, h => minHops_snoc l c (min h d.2.2.2.2.1)
theorem anyWhole_snoc (l : List CFragPacket) (c : CFragPacket) : anyWhole (l ++ [c]) = (anyWhole l || c.2.2.2.2.2.1) := by simp [anyWhole]
end Go.Proofs.Ytodhjpnfokkfeaa

/- Plain facts about prefixes: one within another; the fewest prefixes that have what some have and others have not. -/
import Derived.Test.YtobgbogglilfjaaNeta
import Derived.Test.YtobgbogglilfjaaMod
set_option linter.unusedSimpArgs false
set_option linter.unusedVariables false
namespace Go.Proofs.Ytobgbogglilfjaa
open Go Go.RowKit
def inQ (p q : MNetPrefix) : Bool := withinP p.1 p.2 q.1 q.2
def okQ (p : MNetPrefix) : Bool := okP p.1 p.2
theorem okQ_t {p : MNetPrefix} (h : okQ p = true) : 0 ≤ p.2 ∧ p.2 ≤ 16 ∧ 0 ≤ p.1 ∧ p.1 ≤ 65535 ∧ p.1 % size p.2 = 0 := by
  have h1 := okP_t h
  simp only [okQ, okP, Bool.and_eq_true, decide_eq_true_eq] at h
  exact ⟨h1.1, h1.2.1, h1.2.2.1, h1.2.2.2, h.2⟩
theorem size_mul {n m : Int} (h0 : 0 ≤ n) (h1 : n ≤ m) (h2 : m ≤ 16) : size n = size m * 2 ^ (m - n).toNat := by
  unfold size
  rw [← Int.pow_add]
  congr 1
  omega
theorem div_size (a : Int) {n m : Int} (h0 : 0 ≤ n) (h1 : n ≤ m) (h2 : m ≤ 16) : a / size n = a / size m / 2 ^ (m - n).toNat := by
  have hs := size_pos m
  rw [size_mul h0 h1 h2, Int.ediv_ediv_of_nonneg (by omega)]
theorem inQ_iff {p q : MNetPrefix} (hq : okQ q = true) : inQ p q = true ↔ q.2 ≤ p.2 ∧ p.1 / size q.2 = q.1 / size q.2 := by
  obtain ⟨h0, h1, h2, h3, h4⟩ := okQ_t hq
  have hs := size_pos q.2
  have hd := Int.mul_ediv_add_emod q.1 (size q.2)
  rw [h4, Int.add_zero] at hd
  unfold inQ withinP hasP
  simp only [Bool.and_eq_true, decide_eq_true_eq]
  constructor
  · rintro ⟨h5, h6, h7⟩
    refine ⟨h5, ?_⟩
    have e : p.1 / size q.2 = q.1 / size q.2 := by
      have e1 : p.1 = (p.1 - q.1) + size q.2 * (q.1 / size q.2) := by omega
      rw [e1, Int.add_mul_ediv_left _ _ (by omega), Int.ediv_eq_zero_of_lt (by omega) (by omega)]
      omega
    exact e
  · rintro ⟨h5, h6⟩
    have hp := Int.mul_ediv_add_emod p.1 (size q.2)
    have h7 := Int.emod_nonneg p.1 (b := size q.2) (by omega)
    have h8 := Int.emod_lt_of_pos p.1 (b := size q.2) (by omega)
    rw [h6] at hp
    exact ⟨h5, by omega, by omega⟩
theorem inQ_refl (p : MNetPrefix) : inQ p p = true := by
  have := size_pos p.2
  unfold inQ withinP hasP
  simp only [Bool.and_eq_true, decide_eq_true_eq]
  omega
theorem inQ_trans {a b c : MNetPrefix} (ha : okQ a = true) (hb : okQ b = true) (hc : okQ c = true) (h1 : inQ a b = true) (h2 : inQ b c = true) : inQ a c = true := by
  rw [inQ_iff hb] at h1
  rw [inQ_iff hc] at h2 ⊢
  obtain ⟨a0, a1, _⟩ := okQ_t ha
  obtain ⟨b0, b1, _⟩ := okQ_t hb
  obtain ⟨c0, c1, _⟩ := okQ_t hc
  refine ⟨by omega, ?_⟩
  rw [div_size a.1 c0 h2.1 b1, h1.2, ← div_size b.1 c0 h2.1 b1, h2.2]
/-- two that have a third one's are one within the other -/
theorem inQ_comp {a b c : MNetPrefix} (hb : okQ b = true) (hc : okQ c = true) (h1 : inQ a b = true) (h2 : inQ a c = true) : inQ b c = true ∨ inQ c b = true := by
  rw [inQ_iff hb] at h1
  rw [inQ_iff hc] at h2
  obtain ⟨b0, b1, _⟩ := okQ_t hb
  obtain ⟨c0, c1, _⟩ := okQ_t hc
  rcases Int.le_total c.2 b.2 with h | h
  · left
    rw [inQ_iff hc]
    exact ⟨h, by rw [div_size b.1 c0 h b1, ← h1.2, ← div_size a.1 c0 h b1, h2.2]⟩
  · right
    rw [inQ_iff hb]
    exact ⟨h, by rw [div_size c.1 b0 h c1, ← h2.2, ← div_size a.1 b0 h c1, h1.2]⟩
def lowQ (p : MNetPrefix) : MNetPrefix := (p.1, p.2 + 1)
def highQ (p : MNetPrefix) : MNetPrefix := (p.1 + size (p.2 + 1), p.2 + 1)
theorem lowQ_ok {p : MNetPrefix} (h : okQ p = true) (hl : p.2 < 16) : okQ (lowQ p) = true ∧ inQ (lowQ p) p = true := by
  obtain ⟨h0, h1, h2, h3, h4⟩ := okQ_t h
  have hs := size_step p.2 hl
  have hp := size_pos (p.2 + 1)
  constructor
  · show (inB (p.2 + 1) 0 16 && inB p.1 0 65535 && decide (p.1 % size (p.2 + 1) = 0)) = true
    simp only [inB, Bool.and_eq_true, decide_eq_true_eq]
    refine ⟨⟨⟨by omega, by omega⟩, by omega, by omega⟩, ?_⟩
    rw [hs] at h4
    have hd : size (p.2 + 1) ∣ p.1 := Int.dvd_trans (Int.dvd_mul_left 2 _) (Int.dvd_of_emod_eq_zero h4)
    exact Int.emod_eq_zero_of_dvd hd
  · show (decide (p.2 ≤ p.2 + 1) && (decide (p.1 ≤ p.1) && decide (p.1 < p.1 + size p.2))) = true
    simp only [Bool.and_eq_true, decide_eq_true_eq]
    omega
theorem highQ_ok {p : MNetPrefix} (h : okQ p = true) (hl : p.2 < 16) : okQ (highQ p) = true ∧ inQ (highQ p) p = true := by
  obtain ⟨h0, h1, h2, h3, h4⟩ := okQ_t h
  have hs := size_step p.2 hl
  have hp := size_pos (p.2 + 1)
  have hd2 : size p.2 ∣ 65536 := by
    have e := size_mul (n := 0) (m := p.2) (by omega) h0 h1
    have e0 : size 0 = 65536 := rfl
    rw [e0] at e
    exact ⟨_, e⟩
  have hlt : p.1 + size p.2 ≤ 65536 := by
    obtain ⟨k, hk⟩ := hd2
    obtain ⟨j, hj⟩ := Int.dvd_of_emod_eq_zero h4
    have hsp := size_pos p.2
    rw [hk, hj]
    have : j < k := by
      rcases Int.lt_or_le j k with h | h
      · exact h
      · exfalso
        have := Int.mul_le_mul_of_nonneg_left h (show 0 ≤ size p.2 by omega)
        omega
    have h7 : size p.2 * (j + 1) ≤ size p.2 * k := Int.mul_le_mul_of_nonneg_left (by omega) (by omega)
    rw [Int.mul_add, Int.mul_one] at h7
    exact h7
  constructor
  · show (inB (p.2 + 1) 0 16 && inB (p.1 + size (p.2 + 1)) 0 65535 && decide ((p.1 + size (p.2 + 1)) % size (p.2 + 1) = 0)) = true
    simp only [inB, Bool.and_eq_true, decide_eq_true_eq]
    refine ⟨⟨⟨by omega, by omega⟩, by omega, by omega⟩, ?_⟩
    rw [hs] at h4
    have hd : size (p.2 + 1) ∣ p.1 := Int.dvd_trans (Int.dvd_mul_left 2 _) (Int.dvd_of_emod_eq_zero h4)
    exact Int.emod_eq_zero_of_dvd (Int.dvd_add hd (Int.dvd_refl _))
  · show (decide (p.2 ≤ p.2 + 1) && (decide (p.1 ≤ p.1 + size (p.2 + 1)) && decide (p.1 + size (p.2 + 1) < p.1 + size p.2))) = true
    simp only [Bool.and_eq_true, decide_eq_true_eq]
    omega
def anyIn (p : MNetPrefix) (l : List MNetPrefix) : Bool := l.any fun q => inQ p q
def anyOf (l : List MNetPrefix) (p : MNetPrefix) : Bool := l.any fun q => inQ q p
/-- the fewest within p, k levels deep -/
def partN : Nat → MNetPrefix → List MNetPrefix → List MNetPrefix → List MNetPrefix
  | k, p, l, o =>
    if anyIn p o || (!anyIn p l && !anyOf l p) then []
    else if anyIn p l && !anyOf o p then [p]
    else match k with
      | 0 => []
      | k + 1 => if partN k (lowQ p) l o = [lowQ p] ∧ partN k (highQ p) l o = [highQ p] then [p] else partN k (lowQ p) l o ++ partN k (highQ p) l o
theorem partN_len : ∀ (k : Nat) (p : MNetPrefix) (l o : List MNetPrefix), (partN k p l o).length ≤ 2 ^ k
  | 0, p, l, o => by unfold partN; split; simp; split <;> simp
  | k + 1, p, l, o => by
    have h1 := partN_len k (lowQ p) l o
    have h2 := partN_len k (highQ p) l o
    have h3 : 1 ≤ 2 ^ (k + 1) := Nat.one_le_two_pow
    unfold partN
    split
    · simp
    · split
      · simpa using h3
      · dsimp only
        split
        · simpa using h3
        · rw [List.length_append, Nat.pow_succ]; omega
def allOk (l : List MNetPrefix) : Prop := ∀ q ∈ l, okQ q = true
/-- within p two lists say the same -/
def Sim (p : MNetPrefix) (l l' : List MNetPrefix) : Prop := ∀ c, okQ c = true → inQ c p = true → anyIn c l = anyIn c l' ∧ (anyIn c l = false → anyOf l c = anyOf l' c)
theorem Sim.down {p c : MNetPrefix} {l l' : List MNetPrefix} (hp : okQ p = true) (hc : okQ c = true) (h : Sim p l l') (hcp : inQ c p = true) : Sim c l l' := fun d hd hdc => h d hd (inQ_trans hd hc hp hdc hcp)
theorem part_sim : ∀ (k : Nat) (p : MNetPrefix) (l o l' o' : List MNetPrefix), okQ p = true → p.2 + (k : Int) = 16 → Sim p l l' → Sim p o o' → partN k p l o = partN k p l' o'
  | k, p, l, o, l', o', hp, hk, hl, ho => by
    obtain ⟨a1, a2⟩ := hl p hp (inQ_refl p)
    obtain ⟨b1, b2⟩ := ho p hp (inQ_refl p)
    unfold partN
    rw [← a1, ← b1]
    by_cases h1 : anyIn p o = true
    · simp [h1]
    · have h1' : anyIn p o = false := by simpa using h1
      rw [← b2 h1']
      have e : (!anyIn p l && !anyOf l p) = (!anyIn p l && !anyOf l' p) := by
        by_cases h2 : anyIn p l = true
        · simp [h2]
        · rw [a2 (by simpa using h2)]
      rw [← e]
      split
      · rfl
      · split
        · rfl
        · match k, hk with
          | 0, _ => rfl
          | k + 1, hk =>
            have hlt : p.2 < 16 := by omega
            have q1 := lowQ_ok hp hlt
            have q2 := highQ_ok hp hlt
            dsimp only
            rw [part_sim k (lowQ p) l o l' o' q1.1 (by simp only [lowQ]; omega) (hl.down hp q1.1 q1.2) (ho.down hp q1.1 q1.2),
              part_sim k (highQ p) l o l' o' q2.1 (by simp only [highQ]; omega) (hl.down hp q2.1 q2.2) (ho.down hp q2.1 q2.2)]
theorem any_eq {α : Type} {l : List α} {p q : α → Bool} (h : ∀ a ∈ l, p a = q a) : l.any p = l.any q := by
  induction l with
  | nil => rfl
  | cons a l ih => rw [List.any_cons, List.any_cons, h a (by simp), ih fun b hb => h b (by simp [hb])]
theorem filter_sim {p : MNetPrefix} {l : List MNetPrefix} (hp : okQ p = true) (hl : allOk l) (h : anyIn p l = false) : Sim p l (l.filter fun q => inQ q p) := fun c hc hcp => by
  have h' : ∀ q ∈ l, inQ p q = false := by
    intro q hq
    have := List.any_eq_false.1 h q hq
    simpa using this
  constructor
  · unfold anyIn
    rw [List.any_filter]
    apply any_eq
    intro q hq
    by_cases hcq : inQ c q = true
    · rcases inQ_comp hp (hl q hq) hcp hcq with h1 | h1
      · rw [h' q hq] at h1; cases h1
      · simp [hcq, h1]
    · simp [hcq]
  · intro _
    unfold anyOf
    rw [List.any_filter]
    apply any_eq
    intro q hq
    by_cases hcq : inQ q c = true
    · simp [hcq, inQ_trans (hl q hq) hc hp hcq hcp]
    · simp [hcq]
theorem all_sim {p : MNetPrefix} {l : List MNetPrefix} (hp : okQ p = true) (hl : allOk l) (h : anyIn p l = true) : Sim p l [p] := fun c hc hcp => by
  obtain ⟨q, hq, hpq⟩ := List.any_eq_true.1 h
  have e1 : anyIn c l = true := List.any_eq_true.2 ⟨q, hq, inQ_trans hc hp (hl q hq) hcp hpq⟩
  refine ⟨by rw [e1]; simp [anyIn, hcp], fun h0 => ?_⟩
  rw [e1] at h0; cases h0
end Go.Proofs.Ytobgbogglilfjaa

/- The fewest prefixes told by addresses: what the recursion comes to hangs on the addresses alone. -/
import Derived.Test.YtobgbogglilfjaaNetf
set_option linter.unusedSimpArgs false
set_option linter.unusedVariables false
namespace Go.Proofs.Ytobgbogglilfjaa
open Go Go.RowKit
/-- an address, as a prefix -/
def pt (x : Int) : MNetPrefix := (x, 16)
theorem pin {p : MNetPrefix} {x : Int} : inQ (pt x) p = true ↔ p.2 ≤ 16 ∧ p.1 ≤ x ∧ x < p.1 + size p.2 := by
  show (decide (p.2 ≤ 16) && (decide (p.1 ≤ x) && decide (x < p.1 + size p.2))) = true ↔ _
  simp only [Bool.and_eq_true, decide_eq_true_eq]
theorem pt_ok {x : Int} (h0 : 0 ≤ x) (h1 : x ≤ 65535) : okQ (pt x) = true := by
  have e : size 16 = 1 := rfl
  show (inB 16 0 16 && inB x 0 65535 && decide (x % size 16 = 0)) = true
  rw [e]
  simp [inB, h0, h1, Int.emod_one]
theorem lo_in {p q : MNetPrefix} (h : inQ q p = true) : p.2 ≤ q.2 ∧ p.1 ≤ q.1 ∧ q.1 < p.1 + size p.2 := by
  simpa [inQ, withinP, hasP] using h
theorem in_of {p q : MNetPrefix} (h1 : p.2 ≤ q.2) (h2 : p.1 ≤ q.1) (h3 : q.1 < p.1 + size p.2) : inQ q p = true := by
  simp [inQ, withinP, hasP, h1, h2, h3]
/-- one that is in another one ends within it -/
theorem inQ_end {p q : MNetPrefix} (hp : okQ p = true) (hq : okQ q = true) (h : inQ q p = true) : p.1 ≤ q.1 ∧ q.1 + size q.2 ≤ p.1 + size p.2 := by
  obtain ⟨p0, p1, p2, p3, p4⟩ := okQ_t hp
  obtain ⟨q0, q1, q2, q3, q4⟩ := okQ_t hq
  obtain ⟨h1, h2, h3⟩ := lo_in h
  have e := size_mul p0 h1 q1
  have hs := size_pos q.2
  have d1 : size q.2 ∣ p.1 + size p.2 := by
    have d2 : size q.2 ∣ size p.2 := ⟨_, e⟩
    exact Int.dvd_add (Int.dvd_trans d2 (Int.dvd_of_emod_eq_zero p4)) d2
  obtain ⟨a, ha⟩ := d1
  obtain ⟨b, hb⟩ := Int.dvd_of_emod_eq_zero q4
  refine ⟨h2, ?_⟩
  have hlt : b < a := by
    rcases Int.lt_or_le b a with h | h
    · exact h
    · have := Int.mul_le_mul_of_nonneg_left h (show 0 ≤ size q.2 by omega)
      omega
  have h7 : size q.2 * (b + 1) ≤ size q.2 * a := Int.mul_le_mul_of_nonneg_left (by omega) (by omega)
  rw [Int.mul_add, Int.mul_one] at h7
  omega
theorem low_or {p r : MNetPrefix} (hl : p.2 < 16) (h : inQ r p = true) (hr : p.2 < r.2) : inQ r (lowQ p) = true ∨ inQ r (highQ p) = true := by
  obtain ⟨h1, h2, h3⟩ := lo_in h
  have hs := size_step p.2 hl
  rcases Int.lt_or_le r.1 (p.1 + size (p.2 + 1)) with h4 | h4
  · exact .inl (in_of (p := lowQ p) (by show p.2 + 1 ≤ r.2; omega) (show p.1 ≤ r.1 from h2) (show r.1 < p.1 + size (p.2 + 1) from h4))
  · exact .inr (in_of (p := highQ p) (by show p.2 + 1 ≤ r.2; omega) (show p.1 + size (p.2 + 1) ≤ r.1 from h4) (by show r.1 < p.1 + size (p.2 + 1) + size (p.2 + 1); omega))
theorem not_both {p r : MNetPrefix} (h1 : inQ r (lowQ p) = true) (h2 : inQ r (highQ p) = true) : False := by
  have a := (lo_in h1).2.2
  have b := (lo_in h2).2.1
  have a' : r.1 < p.1 + size (p.2 + 1) := a
  have b' : p.1 + size (p.2 + 1) ≤ r.1 := b
  omega
theorem pt_self {p : MNetPrefix} (hp : okQ p = true) : inQ (pt p.1) p = true := by
  obtain ⟨p0, p1, p2, p3, p4⟩ := okQ_t hp
  have := size_pos p.2
  exact pin.2 ⟨p1, Int.le_refl _, by omega⟩
theorem pt_trans {p q : MNetPrefix} {x : Int} (hp : okQ p = true) (hq : okQ q = true) (h1 : inQ (pt x) q = true) (h2 : inQ q p = true) : inQ (pt x) p = true := by
  obtain ⟨a1, a2, a3⟩ := pin.1 h1
  have he := inQ_end hp hq h2
  exact pin.2 ⟨(okQ_t hp).2.1, by omega, by omega⟩
/-- the fewest within p that have what f tells, k levels deep -/
def canN : Nat → MNetPrefix → (Int → Bool) → List MNetPrefix
  | 0, p, f => if f p.1 then [p] else []
  | k + 1, p, f => if canN k (lowQ p) f = [lowQ p] ∧ canN k (highQ p) f = [highQ p] then [p] else canN k (lowQ p) f ++ canN k (highQ p) f
section
variable {f g : Int → Bool}
theorem halves_ok {k : Nat} {p : MNetPrefix} (hp : okQ p = true) (hk : p.2 + ((k + 1 : Nat) : Int) = 16) : (okQ (lowQ p) = true ∧ inQ (lowQ p) p = true ∧ (lowQ p).2 + (k : Int) = 16) ∧ okQ (highQ p) = true ∧ inQ (highQ p) p = true ∧ (highQ p).2 + (k : Int) = 16 := by
  have hlt : p.2 < 16 := by omega
  have q1 := lowQ_ok hp hlt
  have q2 := highQ_ok hp hlt
  exact ⟨⟨q1.1, q1.2, by simp only [lowQ]; omega⟩, q2.1, q2.2, by simp only [highQ]; omega⟩
theorem can_congr : ∀ (k : Nat) (p : MNetPrefix), okQ p = true → p.2 + (k : Int) = 16 → (∀ x, inQ (pt x) p = true → f x = g x) → canN k p f = canN k p g
  | 0, p, hp, _, h => by unfold canN; rw [h _ (pt_self hp)]
  | k + 1, p, hp, hk, h => by
    obtain ⟨⟨a1, a2, a3⟩, b1, b2, b3⟩ := halves_ok hp hk
    unfold canN
    rw [can_congr k (lowQ p) a1 a3 fun x hx => h x (pt_trans hp a1 hx a2), can_congr k (highQ p) b1 b3 fun x hx => h x (pt_trans hp b1 hx b2)]
theorem can_none : ∀ (k : Nat) (p : MNetPrefix), okQ p = true → p.2 + (k : Int) = 16 → (∀ x, inQ (pt x) p = true → f x = false) → canN k p f = []
  | 0, p, hp, _, h => by unfold canN; rw [h _ (pt_self hp)]; simp
  | k + 1, p, hp, hk, h => by
    obtain ⟨⟨a1, a2, a3⟩, b1, b2, b3⟩ := halves_ok hp hk
    unfold canN
    rw [can_none k (lowQ p) a1 a3 fun x hx => h x (pt_trans hp a1 hx a2), can_none k (highQ p) b1 b3 fun x hx => h x (pt_trans hp b1 hx b2)]
    simp
theorem can_all : ∀ (k : Nat) (p : MNetPrefix), okQ p = true → p.2 + (k : Int) = 16 → (∀ x, inQ (pt x) p = true → f x = true) → canN k p f = [p]
  | 0, p, hp, _, h => by unfold canN; rw [h _ (pt_self hp)]; simp
  | k + 1, p, hp, hk, h => by
    obtain ⟨⟨a1, a2, a3⟩, b1, b2, b3⟩ := halves_ok hp hk
    unfold canN
    rw [can_all k (lowQ p) a1 a3 fun x hx => h x (pt_trans hp a1 hx a2), can_all k (highQ p) b1 b3 fun x hx => h x (pt_trans hp b1 hx b2)]
    simp
theorem can_mem : ∀ (k : Nat) (p : MNetPrefix), okQ p = true → p.2 + (k : Int) = 16 → ∀ q ∈ canN k p f, okQ q = true ∧ inQ q p = true
  | 0, p, hp, _, q, hq => by
    unfold canN at hq
    split at hq
    · rw [List.mem_singleton] at hq; rw [hq]; exact ⟨hp, inQ_refl p⟩
    · cases hq
  | k + 1, p, hp, hk, q, hq => by
    obtain ⟨⟨a1, a2, a3⟩, b1, b2, b3⟩ := halves_ok hp hk
    unfold canN at hq
    split at hq
    · rw [List.mem_singleton] at hq; rw [hq]; exact ⟨hp, inQ_refl p⟩
    · rcases List.mem_append.1 hq with hq | hq
      · have := can_mem k _ a1 a3 q hq
        exact ⟨this.1, inQ_trans this.1 a1 hp this.2 a2⟩
      · have := can_mem k _ b1 b3 q hq
        exact ⟨this.1, inQ_trans this.1 b1 hp this.2 b2⟩
theorem anyIn_false {x : Int} {p : MNetPrefix} {l : List MNetPrefix} (hp : okQ p = true) (hl : ∀ q ∈ l, okQ q = true ∧ inQ q p = true) (h : ¬ inQ (pt x) p = true) : anyIn (pt x) l = false := by
  unfold anyIn
  rw [List.any_eq_false]
  intro q hq h2
  exact h (pt_trans hp (hl q hq).1 h2 (hl q hq).2)
theorem anyIn_append {p : MNetPrefix} {l m : List MNetPrefix} : anyIn p (l ++ m) = (anyIn p l || anyIn p m) := by unfold anyIn; exact List.any_append
theorem anyIn_one {p q : MNetPrefix} : anyIn p [q] = inQ p q := by simp [anyIn]
theorem can_cov : ∀ (k : Nat) (p : MNetPrefix), okQ p = true → p.2 + (k : Int) = 16 → ∀ x, inQ (pt x) p = true → anyIn (pt x) (canN k p f) = f x
  | 0, p, hp, hk, x, hx => by
    have e : size 16 = 1 := rfl
    have hx' := pin.1 hx
    have h16 : p.2 = 16 := by omega
    rw [h16, e] at hx'
    have he : x = p.1 := by omega
    unfold canN
    split
    · rename_i h1; rw [anyIn_one, hx, he, h1]
    · rename_i h1; rw [he]; simp [anyIn, h1]
  | k + 1, p, hp, hk, x, hx => by
    obtain ⟨⟨a1, a2, a3⟩, b1, b2, b3⟩ := halves_ok hp hk
    have ih1 := can_cov k _ a1 a3 x
    have ih2 := can_cov k _ b1 b3 x
    have hlo := low_or (p := p) (r := pt x) (by omega) hx (by show p.2 < 16; omega)
    unfold canN
    split
    · rename_i h1
      rw [h1.1] at ih1
      rw [h1.2] at ih2
      rw [anyIn_one, hx]
      rcases hlo with h | h
      · rw [← ih1 h, anyIn_one, h]
      · rw [← ih2 h, anyIn_one, h]
    · rw [anyIn_append]
      rcases hlo with h | h
      · rw [ih1 h, anyIn_false b1 (can_mem k _ b1 b3) fun h2 => not_both h h2, Bool.or_false]
      · rw [ih2 h, anyIn_false a1 (can_mem k _ a1 a3) fun h2 => not_both h2 h, Bool.false_or]
/-- each behind the one ahead -/
def Asc (l : List MNetPrefix) : Prop := l.Pairwise fun a b => a.1 + size a.2 ≤ b.1
theorem can_asc : ∀ (k : Nat) (p : MNetPrefix), okQ p = true → p.2 + (k : Int) = 16 → Asc (canN k p f)
  | 0, p, hp, hk => by unfold canN Asc; split <;> simp
  | k + 1, p, hp, hk => by
    obtain ⟨⟨a1, a2, a3⟩, b1, b2, b3⟩ := halves_ok hp hk
    unfold canN
    split
    · simp [Asc]
    · refine List.pairwise_append.2 ⟨can_asc k _ a1 a3, can_asc k _ b1 b3, fun a ha b hb => ?_⟩
      have h1 := can_mem k _ a1 a3 a ha
      have h2 := can_mem k _ b1 b3 b hb
      have h3 := inQ_end a1 h1.1 h1.2
      have h4 := inQ_end b1 h2.1 h2.2
      have e1 : (lowQ p).1 + size (lowQ p).2 = (highQ p).1 := rfl
      omega
theorem can_max : ∀ (k : Nat) (p : MNetPrefix), okQ p = true → p.2 + (k : Int) = 16 → ∀ r, okQ r = true → inQ r p = true → (∀ x, inQ (pt x) r = true → f x = true) → ∃ q ∈ canN k p f, inQ r q = true
  | k, p, hp, hk, r, hr, hrp, h => by
    by_cases he : r.2 = p.2
    · have hpr : inQ p r = true := by
        rw [inQ_iff hp] at hrp
        rw [inQ_iff hr, he]
        exact ⟨Int.le_refl _, hrp.2.symm⟩
      rw [can_all k p hp hk fun x hx => h x (pt_trans hr hp hx hpr)]
      exact ⟨p, by simp, hrp⟩
    · have hlt : p.2 < r.2 := by have := (lo_in hrp).1; omega
      have hr16 := (okQ_t hr).2.1
      match k, hk with
      | 0, hk => omega
      | k + 1, hk =>
        obtain ⟨⟨a1, a2, a3⟩, b1, b2, b3⟩ := halves_ok hp hk
        unfold canN
        split
        · exact ⟨p, by simp, hrp⟩
        · rcases low_or (by omega) hrp hlt with h1 | h1
          · obtain ⟨q, hq, hrq⟩ := can_max k _ a1 a3 r hr h1 h
            exact ⟨q, List.mem_append_left _ hq, hrq⟩
          · obtain ⟨q, hq, hrq⟩ := can_max k _ b1 b3 r hr h1 h
            exact ⟨q, List.mem_append_right _ hq, hrq⟩
end
/-- the addresses that some have and others have not -/
def hasF (l o : List MNetPrefix) (x : Int) : Bool := anyIn (pt x) l && !anyIn (pt x) o
theorem any_pt {l : List MNetPrefix} {p : MNetPrefix} {x : Int} (hl : allOk l) (hp : okQ p = true) (hx : inQ (pt x) p = true) (h : anyIn p l = true) : anyIn (pt x) l = true := by
  obtain ⟨q, hq, hpq⟩ := List.any_eq_true.1 h
  exact List.any_eq_true.2 ⟨q, hq, pt_trans (hl q hq) hp hx hpq⟩
theorem none_pt {l : List MNetPrefix} {p : MNetPrefix} {x : Int} (hl : allOk l) (hp : okQ p = true) (hx : inQ (pt x) p = true) (h1 : anyIn p l = false) (h2 : anyOf l p = false) : anyIn (pt x) l = false := by
  unfold anyIn
  rw [List.any_eq_false]
  intro q hq h3
  have a1 := List.any_eq_false.1 h1 q hq
  have a2 := List.any_eq_false.1 h2 q hq
  rcases inQ_comp hp (hl q hq) hx h3 with h | h
  · exact a1 h
  · exact a2 h
theorem part_can : ∀ (k : Nat) (p : MNetPrefix) (l o : List MNetPrefix), okQ p = true → p.2 + (k : Int) = 16 → allOk l → allOk o → partN k p l o = canN k p (hasF l o)
  | k, p, l, o, hp, hk, hl, ho => by
    cases h2 : anyIn p o
    · cases h1 : anyIn p l
      · cases h3 : anyOf l p
        · rw [partN_b h1 h3, can_none k p hp hk]
          intro x hx
          simp [hasF, none_pt hl hp hx h1 h3]
        · match k, hk with
          | 0, hk => rw [leaf_any hp hl (by omega) h1] at h3; cases h3
          | k + 1, hk =>
            obtain ⟨⟨a1, a2, a3⟩, b1, b2, b3⟩ := halves_ok hp hk
            rw [partN_d h2 (.inr h3) (.inl h1), part_can k _ l o a1 a3 hl ho, part_can k _ l o b1 b3 hl ho]
            rfl
      · cases h4 : anyOf o p
        · rw [partN_c h2 h1 h4, can_all k p hp hk]
          intro x hx
          simp [hasF, any_pt hl hp hx h1, none_pt ho hp hx h2 h4]
        · match k, hk with
          | 0, hk => rw [leaf_any hp ho (by omega) h2] at h4; cases h4
          | k + 1, hk =>
            obtain ⟨⟨a1, a2, a3⟩, b1, b2, b3⟩ := halves_ok hp hk
            rw [partN_d h2 (.inl h1) (.inr h4), part_can k _ l o a1 a3 hl ho, part_can k _ l o b1 b3 hl ho]
            rfl
    · rw [partN_a h2, can_none k p hp hk]
      intro x hx
      simp [hasF, any_pt ho hp hx h2]
/-- no more of them than the list has within p -/
theorem part_count : ∀ (k : Nat) (p : MNetPrefix) (l : List MNetPrefix), okQ p = true → p.2 + (k : Int) = 16 → allOk l → (∀ q ∈ l, inQ p q = true → q = p) → (partN k p l []).length ≤ l.countP fun q => inQ q p
  | k, p, l, hp, hk, hl, hH => by
    have h2 : anyIn p [] = false := rfl
    have h4 : anyOf [] p = false := rfl
    cases h1 : anyIn p l
    · cases h3 : anyOf l p
      · rw [partN_b h1 h3]; simp
      · match k, hk with
        | 0, hk => rw [leaf_any hp hl (by omega) h1] at h3; cases h3
        | k + 1, hk =>
          obtain ⟨⟨a1, a2, a3⟩, b1, b2, b3⟩ := halves_ok hp hk
          have hno : ∀ q ∈ l, inQ p q = false := fun q hq => by simpa using List.any_eq_false.1 h1 q hq
          have hsub : ∀ c, okQ c = true → inQ c p = true → c.2 = p.2 + 1 → ∀ q ∈ l, inQ c q = true → q = c := fun c hc hcp hc2 q hq hcq => by
            have hqo := hl q hq
            have hqp : inQ q p = true := by
              rcases inQ_comp hp hqo hcp hcq with h | h
              · rw [hno q hq] at h; cases h
              · exact h
            have e1 := (lo_in hqp).1
            have e2 := (lo_in hcq).1
            have hne : ¬ q.2 = p.2 := fun e => by
              have h5 := hno q hq
              rw [inQ_iff hp] at hqp
              have : inQ p q = true := by rw [inQ_iff hqo, e]; exact ⟨Int.le_refl _, hqp.2.symm⟩
              rw [this] at h5; cases h5
            have e3 : q.2 = c.2 := by omega
            rw [inQ_iff hqo, e3] at hcq
            obtain ⟨_, _, _, _, c4⟩ := okQ_t hc
            obtain ⟨_, _, _, _, q4⟩ := okQ_t hqo
            rw [e3] at q4
            have d1 := Int.mul_ediv_add_emod c.1 (size c.2)
            have d2 := Int.mul_ediv_add_emod q.1 (size c.2)
            rw [c4] at d1
            rw [q4] at d2
            rw [hcq.2] at d1
            exact Prod.ext (by omega) e3
          have i1 := part_count k _ l a1 a3 hl (hsub _ a1 a2 rfl)
          have i2 := part_count k _ l b1 b3 hl (hsub _ b1 b2 rfl)
          have hc : ∀ m : List MNetPrefix, allOk m → (m.countP fun q => inQ q (lowQ p)) + (m.countP fun q => inQ q (highQ p)) ≤ m.countP fun q => inQ q p := by
            intro m
            induction m with
            | nil => intro _; simp
            | cons q m ih =>
              intro hm
              have := ih fun z hz => hm z (List.mem_cons_of_mem _ hz)
              have hqo := hm q List.mem_cons_self
              simp only [List.countP_cons]
              have n1 : inQ q (lowQ p) = true → inQ q p = true := fun h => inQ_trans hqo a1 hp h a2
              have n2 : inQ q (highQ p) = true → inQ q p = true := fun h => inQ_trans hqo b1 hp h b2
              have n3 : inQ q (lowQ p) = true → ¬ inQ q (highQ p) = true := fun h h' => not_both h h'
              by_cases u1 : inQ q (lowQ p) = true
              · simp only [u1, n1 u1, n3 u1, if_true, Bool.false_eq_true, if_false]; omega
              · by_cases u2 : inQ q (highQ p) = true
                · simp only [u1, n2 u2, u2, if_true, Bool.false_eq_true, if_false]; omega
                · simp only [u1, u2, Bool.false_eq_true, if_false]; omega
          have hcl := hc l hl
          rw [partN_d h2 (.inr h3) (.inl h1)]
          split
          · rename_i h5
            rw [h5.1] at i1
            simp only [List.length_singleton] at i1 ⊢
            omega
          · rw [List.length_append]; omega
    · rw [partN_c h2 h1 h4]
      obtain ⟨q, hq, hpq⟩ := List.any_eq_true.1 h1
      have e := hH q hq hpq
      have : 0 < l.countP fun q => inQ q p := List.countP_pos_iff.2 ⟨q, hq, by rw [e]; exact inQ_refl p⟩
      simpa using this
end Go.Proofs.Ytobgbogglilfjaa

/- Numbers and their texts, and texts cut at a byte: plain laws. -/
import Derived.Lib.ItoaNum
import Derived.Lib.AtoiAll
import Derived.Lib.IndexMore
set_option linter.unusedSimpArgs false
set_option linter.unusedVariables false
namespace Go.Proofs.YtbfgpjjempagpaaDoor
open Go Go.Lib
def digitB (c : UInt8) : Bool := decide (48 ≤ c.toNat) && decide (c.toNat ≤ 57)
theorem digitB_iff {c : UInt8} : digitB c = true ↔ 48 ≤ c.toNat ∧ c.toNat ≤ 57 := by simp [digitB]
theorem ofNat_dig {d : Nat} (h : d < 10) : (UInt8.ofNat (48 + d)).toNat = 48 + d := by
  rw [UInt8.toNat_ofNat']
  omega
theorem dec_small {n : Nat} (h : n < 10) : decDigits n = [UInt8.ofNat (48 + n)] := decDigits_one h
theorem dec_big {n : Nat} (h : ¬ n < 10) : decDigits n = decDigits (n / 10) ++ [UInt8.ofNat (48 + n % 10)] := by rw [decDigits.eq_def n, dif_neg h]
theorem dec_digits : ∀ n : Nat, ∀ c ∈ decDigits n, digitB c = true := by
  intro n
  induction n using Nat.strongRecOn with
  | ind n ih =>
    intro c hc
    by_cases h : n < 10
    · rw [dec_small h, List.mem_singleton] at hc
      subst hc
      rw [digitB_iff, ofNat_dig h]; omega
    · rw [dec_big h, List.mem_append, List.mem_singleton] at hc
      rcases hc with hc | rfl
      · exact ih (n / 10) (by omega) c hc
      · rw [digitB_iff, ofNat_dig (by omega)]; omega
theorem dec_ne (n : Nat) : decDigits n ≠ [] := by
  by_cases h : n < 10
  · rw [dec_small h]; simp
  · rw [dec_big h]; simp
/-- what digits spell -/
def valL (l : List UInt8) : Nat := l.foldl (fun a c => a * 10 + (c.toNat - 48)) 0
theorem val_snoc (l : List UInt8) (c : UInt8) : valL (l ++ [c]) = valL l * 10 + (c.toNat - 48) := by simp [valL]
theorem val_dec : ∀ n : Nat, valL (decDigits n) = n := by
  intro n
  induction n using Nat.strongRecOn with
  | ind n ih =>
    by_cases h : n < 10
    · rw [dec_small h]
      show 0 * 10 + ((UInt8.ofNat (48 + n)).toNat - 48) = n
      rw [ofNat_dig h]; omega
    · rw [dec_big h, val_snoc, ih (n / 10) (by omega), ofNat_dig (by omega)]; omega
theorem snoc_of {l : List UInt8} (h : l ≠ []) : ∃ xs c, l = xs ++ [c] := ⟨_, _, (List.dropLast_concat_getLast h).symm⟩
theorem val_lt : ∀ (k : Nat) (l : List UInt8), l.length = k → (∀ c ∈ l, digitB c = true) → valL l < 10 ^ k
  | 0, l, hl, _ => by
    have : l = [] := List.eq_nil_of_length_eq_zero hl
    subst this
    simp [valL]
  | k + 1, l, hl, hd => by
    obtain ⟨xs, c, rfl⟩ := snoc_of (l := l) (by intro e; subst e; simp at hl)
    have h1 := val_lt k xs (by simpa using hl) (fun d hd' => hd d (List.mem_append_left _ hd'))
    have h2 := digitB_iff.1 (hd c (by simp))
    rw [val_snoc, Nat.pow_succ]; omega
/-- no nought ahead -/
def plainN (l : List UInt8) : Prop := l.length = 1 ∨ ∃ c r, l = c :: r ∧ c ≠ 48
theorem dec_val : ∀ (k : Nat) (l : List UInt8), l.length = k + 1 → (∀ c ∈ l, digitB c = true) → plainN l → decDigits (valL l) = l
  | 0, l, hl, hd, _ => by
    match l, hl with
    | [c], _ =>
      have h1 := digitB_iff.1 (hd c (by simp))
      have h2 : valL [c] = c.toNat - 48 := by simp [valL]
      rw [h2, dec_small (by omega)]
      congr 1
      rw [show 48 + (c.toNat - 48) = c.toNat by omega]
      simp
  | k + 1, l, hl, hd, hp => by
    obtain ⟨xs, c, rfl⟩ := snoc_of (l := l) (by intro e; subst e; simp at hl)
    have hxl : xs.length = k + 1 := by simpa using hl
    obtain ⟨a, r, rfl⟩ : ∃ a r, xs = a :: r := by
      match xs, hxl with
      | a :: r, _ => exact ⟨a, r, rfl⟩
    have ha : a ≠ 48 := by
      rcases hp with h | ⟨b, q, e, h⟩
      · simp at h
      · rw [List.cons_append, List.cons.injEq] at e
        rw [e.1]; exact h
    have ih := dec_val k (a :: r) hxl (fun d hd' => hd d (List.mem_append_left _ hd')) (.inr ⟨a, r, rfl, ha⟩)
    have h2 := digitB_iff.1 (hd c (by simp))
    have h3 : valL (a :: r) ≠ 0 := fun e => by
      rw [e, dec_small (by omega)] at ih
      rw [List.cons.injEq] at ih
      exact ha (ih.1.symm)
    rw [val_snoc, dec_big (by omega)]
    rw [show (valL (a :: r) * 10 + (c.toNat - 48)) / 10 = valL (a :: r) by omega, ih]
    congr 2
    rw [show 48 + (valL (a :: r) * 10 + (c.toNat - 48)) % 10 = c.toNat by omega]
    simp
theorem dec_plain : ∀ n : Nat, plainN (decDigits n) := by
  intro n
  induction n using Nat.strongRecOn with
  | ind n ih =>
    by_cases h : n < 10
    · rw [dec_small h]; exact .inl rfl
    · right
      have h1 : plainN (decDigits (n / 10)) := ih (n / 10) (by omega)
      rw [dec_big h]
      rcases h1 with h1 | ⟨c, r, h1, h2⟩
      · by_cases h3 : n / 10 < 10
        · rw [dec_small h3]
          refine ⟨_, _, rfl, fun e => ?_⟩
          have := congrArg UInt8.toNat e
          rw [ofNat_dig h3] at this
          simp at this
          omega
        · exfalso
          rw [dec_big h3] at h1
          have := dec_ne (n / 10 / 10)
          simp at h1
          exact this h1
      · rw [h1]; exact ⟨c, _, rfl, h2⟩
theorem dec_len {n : Nat} (h : n ≤ 99999) : 1 ≤ (decDigits n).length ∧ (decDigits n).length ≤ 5 := by
  refine ⟨?_, ?_⟩
  · have := dec_ne n
    rcases Nat.eq_zero_or_pos (decDigits n).length with h1 | h1
    · exact absurd (List.eq_nil_of_length_eq_zero h1) this
    · exact h1
  · by_cases h1 : n < 10
    · rw [dec_small h1]; simp
    rw [dec_big h1]
    by_cases h2 : n / 10 < 10
    · rw [dec_small h2]; simp
    rw [dec_big h2]
    by_cases h3 : n / 10 / 10 < 10
    · rw [dec_small h3]; simp
    rw [dec_big h3]
    by_cases h4 : n / 10 / 10 / 10 < 10
    · rw [dec_small h4]; simp
    rw [dec_big h4, dec_small (by omega)]; simp
/-! ### the reference's number -/
def numOk (l : List UInt8) : Bool := decide (1 ≤ l.length) && decide (l.length ≤ 5) && !(decide (1 < l.length) && decide (l.getD 0 0 = 48)) && l.all digitB
def numV (l : List UInt8) : Int := if numOk l = true then (valL l : Int) else -1
theorem numOk_iff {l : List UInt8} : numOk l = true ↔ 1 ≤ l.length ∧ l.length ≤ 5 ∧ plainN l ∧ ∀ c ∈ l, digitB c = true := by
  match l with
  | [] => simp [numOk]
  | [c] => simp [numOk, plainN]
  | c :: d :: r =>
    have hp : plainN (c :: d :: r) ↔ c ≠ 48 := by
      constructor
      · rintro (h | ⟨b, q, e, h⟩)
        · simp at h
        · rw [List.cons.injEq] at e; rw [e.1]; exact h
      · exact fun h => .inr ⟨c, _, rfl, h⟩
    rw [hp]
    simp only [numOk, List.length_cons, Bool.and_eq_true, decide_eq_true_eq, Bool.not_eq_true', Bool.and_eq_false_iff, decide_eq_false_iff_not, List.getD_cons_zero, List.all_eq_true]
    constructor
    · rintro ⟨⟨⟨h1, h2⟩, h3⟩, h4⟩
      exact ⟨h1, h2, h3.resolve_left (by omega), h4⟩
    · rintro ⟨h1, h2, h3, h4⟩
      exact ⟨⟨⟨h1, h2⟩, .inr h3⟩, h4⟩
theorem num_dec {n : Nat} (h : n ≤ 99999) : numV (decDigits n) = n := by
  have h1 := dec_len h
  rw [numV, if_pos (numOk_iff.2 ⟨h1.1, h1.2, dec_plain n, dec_digits n⟩), val_dec]
theorem num_ge {l : List UInt8} (h : 0 ≤ numV l) : ∃ n : Nat, n ≤ 99999 ∧ l = decDigits n ∧ numV l = n := by
  cases h1 : numOk l
  · rw [numV, h1] at h; simp at h
  · obtain ⟨a, b, c, d⟩ := numOk_iff.1 h1
    obtain ⟨k, hk⟩ : ∃ k, l.length = k + 1 := ⟨l.length - 1, by omega⟩
    have h2 := val_lt (k + 1) l hk d
    have h3 : 10 ^ (k + 1) ≤ 10 ^ 5 := Nat.pow_le_pow_right (by decide) (by omega)
    exact ⟨valL l, by omega, (dec_val k l hk d c).symm, by rw [numV, if_pos h1]⟩
/-! ### the library's number -/
theorem parse_append : ∀ (xs ys : List UInt8) (acc u : Nat), parseUint10 acc xs = .ok u → parseUint10 acc (xs ++ ys) = parseUint10 u ys
  | [], ys, acc, u, h => by
    simp only [parseUint10] at h
    injection h with h
    rw [← h]; rfl
  | c :: xs, ys, acc, u, h => by
    simp only [parseUint10, List.cons_append] at h ⊢
    split at h
    · rename_i h1
      rw [if_pos h1]
      split at h
      · cases h
      · rename_i h2
        rw [if_neg h2]
        split at h
        · cases h
        · rename_i h3
          rw [if_neg h3]
          exact parse_append xs ys _ u h
    · cases h
theorem parse_dec : ∀ n : Nat, n ≤ 99999 → parseUint10 0 (decDigits n) = .ok n := by
  intro n
  induction n using Nat.strongRecOn with
  | ind n ih =>
    intro hn
    by_cases h : n < 10
    · rw [dec_small h]
      have h1 := ofNat_dig h
      simp only [parseUint10, h1]
      rw [if_pos (by omega), if_neg (by omega), if_neg (by omega)]
      congr 1
      omega
    · rw [dec_big h, parse_append _ _ _ _ (ih (n / 10) (by omega) (by omega))]
      have h1 := ofNat_dig (d := n % 10) (by omega)
      simp only [parseUint10, h1]
      rw [if_pos (by omega), if_neg (by omega), if_neg (by omega)]
      congr 1
      omega
theorem atoi_dec {n : Nat} (hn : n ≤ 99999) : atoiAll (decDigits n) = .ok (n : Int) := by
  have h1 := parse_dec n hn
  have h2 := dec_digits n
  match hd : decDigits n with
  | [] => exact absurd hd (dec_ne n)
  | c :: r =>
    rw [hd] at h1 h2
    have h3 := digitB_iff.1 (h2 c (by simp))
    simp only [atoiAll]
    rw [if_neg (by omega)]
    rw [parseMag, if_neg (by simp), h1]
    simp only
    rw [if_neg (by omega), if_neg (by omega), if_neg (by omega)]
/-- what the program's 'decimal' answers -/
def decV (l : List UInt8) : Int :=
  match atoiAll l with
  | .ok v => if 0 ≤ v ∧ decDigits v.toNat = l then v else -1
  | _ => -1
theorem decV_cases (l : List UInt8) : decV l = -1 ∨ ∃ n : Nat, decV l = n ∧ l = decDigits n := by
  unfold decV
  split
  · split
    · rename_i h
      exact .inr ⟨_, (Int.toNat_of_nonneg h.1).symm, h.2.symm⟩
    · exact .inl rfl
  · exact .inl rfl
theorem decV_dec {n : Nat} (h : n ≤ 99999) : decV (decDigits n) = n := by
  unfold decV
  rw [atoi_dec h]
  simp
/-- one number, or too great a one that the reference has not -/
theorem dec_num (l : List UInt8) : decV l = numV l ∨ (99999 < decV l ∧ numV l = -1) := by
  by_cases h : 0 ≤ numV l
  · obtain ⟨n, h1, h2, h3⟩ := num_ge h
    left
    rw [h3, h2, decV_dec h1]
  · have hm : numV l = -1 := by
      unfold numV at h ⊢
      split
      · rename_i h1; rw [if_pos h1] at h; omega
      · rfl
    rcases decV_cases l with h1 | ⟨n, h1, h2⟩
    · left; rw [h1, hm]
    · right
      refine ⟨?_, hm⟩
      rcases Nat.lt_or_ge 99999 n with h3 | h3
      · omega
      · exfalso
        rw [h2, num_dec h3] at hm
        omega
theorem dec_of_not {l : List UInt8} {c : UInt8} (hc : c ∈ l) (hd : digitB c = false) : decV l = -1 ∧ numV l = -1 := by
  have h1 : numV l = -1 := by
    unfold numV
    rw [if_neg fun h => ?_]
    have := (numOk_iff.1 h).2.2.2 c hc
    rw [hd] at this; cases this
  refine ⟨?_, h1⟩
  rcases decV_cases l with h | ⟨n, h2, h3⟩
  · exact h
  · exfalso
    rw [h3] at hc
    have := dec_digits n c hc
    rw [hd] at this; cases this
/-! ### texts cut at a byte -/
theorem index_one (c : UInt8) : ∀ l : List UInt8, (index l [c] = -1 ∧ c ∉ l) ∨ ∃ k : Nat, index l [c] = k ∧ l[k]? = some c ∧ c ∉ l.take k
  | [] => .inl ⟨rfl, by simp⟩
  | b :: l => by
    unfold index
    by_cases h : b = c
    · subst h
      right
      exact ⟨0, by simp, by simp, by simp⟩
    · have hp : [c].isPrefixOf (b :: l) = false := by
        simp [List.isPrefixOf]
        exact fun e => h e.symm
      rw [hp]
      simp only [Bool.false_eq_true, if_false]
      rcases index_one c l with ⟨h1, h2⟩ | ⟨k, h1, h2, h3⟩
      · left
        rw [h1]
        refine ⟨by simp, ?_⟩
        rw [List.mem_cons]
        rintro (e | e)
        · exact h e.symm
        · exact h2 e
      · right
        rw [h1]
        refine ⟨k + 1, ?_, by simpa using h2, ?_⟩
        · rw [if_neg (by simp; try omega)]; (try simp)
        · rw [List.take_succ_cons, List.mem_cons]
          rintro (e | e)
          · exact h e.symm
          · exact h3 e
/-- the pieces up to place i, and where the next one begins -/
def cutS (l : List UInt8) (c : UInt8) : Nat → List (List UInt8) × Nat
  | 0 => ([], 0)
  | i + 1 => if l.getD i 0 = c then ((cutS l c i).1 ++ [(l.drop (cutS l c i).2).take (i - (cutS l c i).2)], i + 1) else cutS l c i
theorem cutS_from (l : List UInt8) (c : UInt8) : ∀ i, (cutS l c i).2 ≤ i
  | 0 => Nat.le_refl _
  | i + 1 => by
    have := cutS_from l c i
    rw [cutS]
    split
    · exact Nat.le_refl _
    · omega
theorem cutS_len (l : List UInt8) (c : UInt8) : ∀ i, (cutS l c i).1.length ≤ i
  | 0 => Nat.le_refl _
  | i + 1 => by
    have := cutS_len l c i
    rw [cutS]
    split
    · simp only [List.length_append, List.length_singleton]; omega
    · omega
theorem cutS_none {l : List UInt8} {c : UInt8} : ∀ i, (∀ j, j < i → l.getD j 0 ≠ c) → cutS l c i = ([], 0)
  | 0, _ => rfl
  | i + 1, h => by
    rw [cutS, if_neg (h i (Nat.lt_succ_self i)), cutS_none i fun j hj => h j (by omega)]
theorem cutS_one {l : List UInt8} {c : UInt8} {k : Nat} (hk : l.getD k 0 = c) (h0 : ∀ j, j < k → l.getD j 0 ≠ c) : ∀ i, (∀ j, k < j → j < k + 1 + i → l.getD j 0 ≠ c) → cutS l c (k + 1 + i) = ([l.take k], k + 1)
  | 0, _ => by
    rw [Nat.add_zero, cutS, if_pos hk, cutS_none k h0]
    simp
  | i + 1, h => by
    rw [← Nat.add_assoc, cutS, if_neg (h (k + 1 + i) (by omega) (by omega)), cutS_one hk h0 i fun j h1 h2 => h j h1 (by omega)]
theorem cutS_mono {l : List UInt8} {c : UInt8} : ∀ (d i : Nat), (cutS l c i).1.length ≤ (cutS l c (i + d)).1.length
  | 0, i => Nat.le_refl _
  | d + 1, i => by
    have h := cutS_mono (l := l) (c := c) d i
    rw [← Nat.add_assoc, cutS]
    split
    · simp only [List.length_append, List.length_singleton]; omega
    · exact h
theorem cutS_hit {l : List UInt8} {c : UInt8} {k n : Nat} (hk : l.getD k 0 = c) (hn : k < n) : (cutS l c k).1.length + 1 ≤ (cutS l c n).1.length := by
  have h1 : (cutS l c (k + 1)).1.length = (cutS l c k).1.length + 1 := by rw [cutS, if_pos hk]; simp
  have h2 := cutS_mono (l := l) (c := c) (n - (k + 1)) (k + 1)
  rw [show k + 1 + (n - (k + 1)) = n by omega] at h2
  omega
/-- the reference's pieces -/
def piecesL (l : List UInt8) (c : UInt8) : List (List UInt8) := (cutS l c l.length).1 ++ [l.drop (cutS l c l.length).2]
theorem getD_some {l : List UInt8} {k : Nat} {c : UInt8} (h : l[k]? = some c) : l.getD k 0 = c := by rw [List.getD_eq_getElem?_getD, h]; rfl
theorem getD_mem {l : List UInt8} {j : Nat} (h : j < l.length) : l[j]? = some (l.getD j 0) := by rw [List.getD_eq_getElem?_getD, List.getElem?_eq_getElem h]; rfl
/-- cut by both: none, one, or more -/
theorem pieces_cut (l : List UInt8) (c : UInt8) : (Lib.cut l [c] = (l, [], false) ∧ piecesL l c = [l]) ∨ ∃ a b, Lib.cut l [c] = (a, b, true) ∧ (piecesL l c = [a, b] ∨ (c ∈ b ∧ 3 ≤ (piecesL l c).length)) := by
  rcases index_one c l with ⟨h1, h2⟩ | ⟨k, h1, h2, h3⟩
  · left
    refine ⟨by rw [Lib.cut, h1, if_neg (by omega)], ?_⟩
    have h4 := cutS_none (l := l) (c := c) l.length fun j hj e => h2 (by
      have := List.mem_of_getElem? (getD_mem hj)
      rwa [e] at this)
    rw [piecesL, h4]; simp
  · right
    have hkl : k < l.length := (List.getElem?_eq_some_iff.1 h2).1
    have h0 : ∀ j, j < k → l.getD j 0 ≠ c := fun j hj e => h3 (by
      have h5 : (l.take k)[j]? = some (l.getD j 0) := by rw [List.getElem?_take_of_lt hj]; exact getD_mem (by omega)
      have := List.mem_of_getElem? h5
      rwa [e] at this)
    refine ⟨l.take k, l.drop (k + 1), by rw [Lib.cut, h1, if_pos (by omega)]; simp, ?_⟩
    by_cases hb : c ∈ l.drop (k + 1)
    · right
      refine ⟨hb, ?_⟩
      obtain ⟨j, hj⟩ := List.getElem?_of_mem hb
      rw [List.getElem?_drop] at hj
      have hjl : k + 1 + j < l.length := (List.getElem?_eq_some_iff.1 hj).1
      have a1 := cutS_hit (n := k + 1 + j) (getD_some h2) (by omega)
      have a2 := cutS_hit (n := l.length) (getD_some hj) hjl
      rw [piecesL, List.length_append, List.length_singleton]
      omega
    · left
      have h6 := cutS_one (getD_some h2) h0 (l.length - (k + 1)) fun j h7 h8 e => hb (by
        have h9 : (l.drop (k + 1))[j - (k + 1)]? = some (l.getD j 0) := by rw [List.getElem?_drop, show k + 1 + (j - (k + 1)) = j by omega]; exact getD_mem (by omega)
        have := List.mem_of_getElem? h9
        rwa [e] at this)
      rw [show k + 1 + (l.length - (k + 1)) = l.length by omega] at h6
      rw [piecesL, h6]; rfl
/-! ### addresses and prefixes out of texts -/
def inR (z : Int) : Bool := decide (0 ≤ z) && decide (z ≤ 255)
def addrI (l : List UInt8) : Int := if (Lib.cut l [46]).2.2 = true ∧ inR (decV (Lib.cut l [46]).1) = true ∧ inR (decV (Lib.cut l [46]).2.1) = true then 256 * decV (Lib.cut l [46]).1 + decV (Lib.cut l [46]).2.1 else -1
def addrS (l : List UInt8) : Int :=
  match piecesL l 46 with
  | [a, b] => if inR (numV a) = true ∧ inR (numV b) = true then 256 * numV a + numV b else -1
  | _ => -1
theorem inR_dec (l : List UInt8) : inR (decV l) = inR (numV l) ∧ (inR (numV l) = true → decV l = numV l) := by
  rcases dec_num l with h | ⟨h1, h2⟩
  · rw [h]; exact ⟨rfl, fun _ => rfl⟩
  · have e1 : inR (decV l) = false := by simp [inR]; omega
    have e2 : inR (numV l) = false := by rw [h2]; rfl
    rw [e1, e2]
    exact ⟨rfl, fun h => by cases h⟩
theorem addr_eq (l : List UInt8) : addrI l = addrS l := by
  rcases pieces_cut l 46 with ⟨h1, h2⟩ | ⟨a, b, h1, h2 | ⟨h2, h3⟩⟩
  · rw [addrI, addrS, h1, h2]; simp
  · rw [addrI, addrS, h1, h2]
    simp only [true_and]
    have ha := inR_dec a
    have hb := inR_dec b
    rw [ha.1, hb.1]
    by_cases h : inR (numV a) = true ∧ inR (numV b) = true
    · rw [if_pos h, if_pos h, ha.2 h.1, hb.2 h.2]
    · rw [if_neg h, if_neg h]
  · have hn := (dec_of_not h2 (by decide)).1
    rw [addrI, h1, addrS]
    rw [if_neg (by rw [hn]; rintro ⟨_, _, h⟩; cases h)]
    split
    · rename_i q1 q2 e
      rw [e] at h3; simp at h3
    · rfl
end Go.Proofs.YtbfgpjjempagpaaDoor

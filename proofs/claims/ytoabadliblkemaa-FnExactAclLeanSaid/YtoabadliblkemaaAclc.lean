/- Addresses at which something may change: in order, each once. -/
import Derived.Test.YtoabadliblkemaaAclb
set_option linter.unusedSimpArgs false
set_option linter.unusedVariables false
namespace Go.Proofs.Ytoabadliblkemaa
open Go Go.RowKit
attribute [local irreducible] Calls GoS GoC GoE GoT Mid IsEq IsFl IsSc IsRw IsSl IsEl IsSt IsFs sp Mem Rd LenOf szR
def AscI (l : List Int) : Prop := l.Pairwise (· < ·)
theorem asc_unique : ∀ {a b : List Int}, AscI a → AscI b → (∀ x, x ∈ a ↔ x ∈ b) → a = b
  | [], [], _, _, _ => rfl
  | [], y :: b, _, _, h => absurd ((h y).2 (List.mem_cons_self ..)) (by simp)
  | x :: a, [], _, _, h => absurd ((h x).1 (List.mem_cons_self ..)) (by simp)
  | x :: a, y :: b, ha, hb, h => by
    have ha' := List.pairwise_cons.1 ha
    have hb' := List.pairwise_cons.1 hb
    have e : x = y := by
      rcases List.mem_cons.1 ((h x).1 (List.mem_cons_self ..)) with e | hx
      · exact e
      · rcases List.mem_cons.1 ((h y).2 (List.mem_cons_self ..)) with e | hy
        · exact e.symm
        · have h1 := hb'.1 x hx
          have h2 := ha'.1 y hy
          omega
    subst e
    refine congrArg _ (asc_unique ha'.2 hb'.2 fun z => ⟨fun hz => ?_, fun hz => ?_⟩)
    · rcases List.mem_cons.1 ((h z).1 (List.mem_cons_of_mem _ hz)) with e | hz'
      · have := ha'.1 z hz; omega
      · exact hz'
    · rcases List.mem_cons.1 ((h z).2 (List.mem_cons_of_mem _ hz)) with e | hz'
      · have := hb'.1 z hz; omega
      · exact hz'
theorem sortI_asc (l : List Int) : (sortI l).Pairwise (fun x y => x ≤ y) := by
  have h := List.pairwise_mergeSort (le := fun x y : Int => decide (x ≤ y)) (fun a b c h1 h2 => by simp only [decide_eq_true_eq] at *; omega) (fun a b => by simp only [Bool.or_eq_true, decide_eq_true_eq]; omega) l
  exact h.imp fun h => of_decide_eq_true h
theorem sortI_mem (l : List Int) (x : Int) : x ∈ sortI l ↔ x ∈ l := List.mem_mergeSort
open Go.Lib in
theorem compact_asc {l : List Int} (h : l.Pairwise (fun x y => x ≤ y)) : AscI (compact l) ∧ ∀ x, x ∈ compact l ↔ x ∈ l := by
  have hget : ∀ j, (hj : j < l.length) → l.toArray[j]! = l[j] := fun j hj => by simp [hj]
  have hle : ∀ i j, (hi : i ≤ j) → (hj : j < l.length) → l.toArray[i]! ≤ l.toArray[j]! := fun i j hi hj => by
    rw [hget i (by omega), hget j hj]
    rcases Nat.eq_or_lt_of_le hi with e | hlt
    · subst e; exact Int.le_refl _
    · exact List.pairwise_iff_getElem.1 h i j (by omega) hj hlt
  have hkeep : ∀ j, keeps l.toArray j = true → j = 0 ∨ l.toArray[j]! ≠ l.toArray[j - 1]! := fun j hj => of_decide_eq_true hj
  constructor
  · unfold AscI compact compactUpTo
    rw [List.pairwise_map, List.pairwise_filter]
    have hr : (List.range l.length).Pairwise (fun a b => a < b ∧ b < l.length) := by
      rw [List.pairwise_iff_getElem]
      intro i j hi hj hij
      simp only [List.getElem_range]
      simp only [List.length_range] at hi hj
      exact ⟨hij, hj⟩
    refine hr.imp ?_
    intro a b hab _ hb
    rcases hkeep b hb with h0 | hne
    · omega
    · have h1 := hle a (b - 1) (by omega) (by omega)
      have h2 := hle (b - 1) b (by omega) hab.2
      omega
  · intro x
    unfold compact compactUpTo
    rw [List.mem_map]
    constructor
    · rintro ⟨j, hj, rfl⟩
      have hj' : j < l.length := List.mem_range.1 (List.mem_filter.1 hj).1
      rw [hget j hj']
      exact List.getElem_mem hj'
    · intro hx
      -- the first place at which it stands
      have hmin : ∀ n j, j ≤ n → (hj : j < l.length) → l.toArray[j]! = x → ∃ i, i < l.length ∧ keeps l.toArray i = true ∧ l.toArray[i]! = x := by
        intro n
        induction n with
        | zero =>
          intro j h0 hj e
          have : j = 0 := by omega
          subst this
          exact ⟨0, hj, by simp [keeps], e⟩
        | succ n ih =>
          intro j h0 hj e
          by_cases hk : keeps l.toArray j = true
          · exact ⟨j, hj, hk, e⟩
          · have hk2 : ¬ (j = 0 ∨ l.toArray[j]! ≠ l.toArray[j - 1]!) := fun h => hk (decide_eq_true h)
            have hj0 : j ≠ 0 := fun h => hk2 (.inl h)
            have he : l.toArray[j]! = l.toArray[j - 1]! := by
              by_cases h : l.toArray[j]! = l.toArray[j - 1]!
              · exact h
              · exact absurd (.inr h) hk2
            exact ih (j - 1) (by omega) (by omega) (by rw [← he]; exact e)
      obtain ⟨j, hj, e⟩ := List.getElem_of_mem hx
      obtain ⟨i, hi, hk, e2⟩ := hmin j j (Nat.le_refl _) hj (by rw [hget j hj]; exact e)
      exact ⟨i, List.mem_filter.2 ⟨List.mem_range.2 hi, hk⟩, e2⟩
/-- the addresses of prefixes, as they are gathered -/
def rawE (ps : List (Int × Int)) : List Int := 0 :: ps.flatMap fun p => p.1 :: (if p.1 + size p.2 ≤ 65535 then [p.1 + size p.2] else [])
def edgesC (ps : List (Int × Int)) : List Int := Lib.compact (sortI (rawE ps))
def InEdge (ps : List (Int × Int)) (x : Int) : Prop := x = 0 ∨ ∃ p ∈ ps, x = p.1 ∨ (x = p.1 + size p.2 ∧ p.1 + size p.2 ≤ 65535)
theorem rawE_mem (ps : List (Int × Int)) (x : Int) : x ∈ rawE ps ↔ InEdge ps x := by
  unfold rawE InEdge
  rw [List.mem_cons, List.mem_flatMap]
  refine or_congr_right ⟨?_, ?_⟩
  · rintro ⟨p, hp, hx⟩
    refine ⟨p, hp, ?_⟩
    rcases List.mem_cons.1 hx with e | hx
    · exact .inl e
    · split at hx
      · rename_i h; exact .inr ⟨List.mem_singleton.1 hx, h⟩
      · cases hx
  · rintro ⟨p, hp, e | ⟨e, h⟩⟩
    · exact ⟨p, hp, by rw [e]; exact List.mem_cons_self ..⟩
    · exact ⟨p, hp, by rw [if_pos h, e]; simp⟩
theorem edges_spec (ps : List (Int × Int)) : AscI (edgesC ps) ∧ ∀ x, x ∈ edgesC ps ↔ InEdge ps x := by
  have h := compact_asc (sortI_asc (rawE ps))
  exact ⟨h.1, fun x => (h.2 x).trans ((sortI_mem _ x).trans (rawE_mem ps x))⟩
theorem edges_unique {y : List Int} {ps : List (Int × Int)} (h1 : AscI y) (h2 : ∀ x, x ∈ y ↔ InEdge ps x) : y = edgesC ps :=
  asc_unique h1 (edges_spec ps).1 fun x => (h2 x).trans ((edges_spec ps).2 x).symm
theorem rawE_len (ps : List (Int × Int)) : 0 < (rawE ps).length ∧ (rawE ps).length ≤ 1 + 2 * ps.length := by
  unfold rawE
  rw [List.length_cons]
  refine ⟨by omega, ?_⟩
  induction ps with
  | nil => simp
  | cons p ps ih =>
    rw [List.flatMap_cons, List.length_append, List.length_cons, List.length_cons]
    split <;> simp only [List.length_cons, List.length_nil] at * <;> omega
theorem edges_len (ps : List (Int × Int)) : (edgesC ps).length ≤ 1 + 2 * ps.length := by
  have h1 := compact_le (sortI (rawE ps))
  have h2 : (sortI (rawE ps)).length = (rawE ps).length := List.length_mergeSort _
  have h3 := (rawE_len ps).2
  unfold edgesC
  omega
theorem rawE_snoc (ps : List (Int × Int)) (p : Int × Int) : rawE (ps ++ [p]) = rawE ps ++ (p.1 :: (if p.1 + size p.2 ≤ 65535 then [p.1 + size p.2] else [])) := by
  unfold rawE
  rw [List.flatMap_append, List.flatMap_singleton, List.cons_append]
end Go.Proofs.Ytoabadliblkemaa

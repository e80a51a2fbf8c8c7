/- The fewest prefixes as a whole: of a cover's cover, of one more, of a list without itself. -/
import Derived.Test.YtobgbogglilfjaaNetl
import Derived.Test.YtobgbogglilfjaaNetv
set_option linter.unusedSimpArgs false
set_option linter.unusedVariables false
namespace Go.Proofs.Ytobgbogglilfjaa
open Go Go.RowKit
theorem setOk_of {l : List MNetPrefix} (h : allOk l) (hl : l.length ≤ 40) : setOk l = true := by
  unfold setOk
  rw [Bool.and_eq_true]
  refine ⟨decide_eq_true hl, List.all_eq_true.2 fun k hk => h _ (ix_mem (List.mem_range.1 hk))⟩
theorem root_k : ((0, 0) : MNetPrefix).2 + ((16 : Nat) : Int) = 16 := rfl
theorem out_can {l o : List MNetPrefix} (h1 : setOk l = true) (h2 : setOk o = true) : outN l o = canN 16 (0, 0) (hasF l o) := by
  rw [outN, if_pos ⟨h1, h2⟩]
  exact part_can 16 (0, 0) l o zero_ok root_k (setOk_t h1).1 (setOk_t h2).1
theorem hasF_nil (l : List MNetPrefix) (x : Int) : hasF l [] x = anyIn (pt x) l := by simp [hasF, anyIn]
theorem size_zero : size 0 = 65536 := rfl
theorem root_le {l : List MNetPrefix} (h : setOk l = true) : (outN l []).length ≤ l.length := by
  obtain ⟨h1, h2⟩ := setOk_t h
  rw [outN, if_pos ⟨h, setOk_nil⟩]
  refine Nat.le_trans (part_count 16 (0, 0) l zero_ok root_k h1 ?_) List.countP_le_length
  intro q hq hin
  obtain ⟨q0, q1, q2, q3, q4⟩ := okQ_t (h1 q hq)
  have := (lo_in hin).1
  have e : q.2 = 0 := by show q.2 = 0; have : q.2 ≤ 0 := this; omega
  rw [e, size_zero] at q4
  exact Prod.ext (by show q.1 = 0; omega) e
theorem out_ok {l o : List MNetPrefix} (h1 : setOk l = true) (h2 : setOk o = true) : allOk (outN l o) := by
  rw [out_can h1 h2]
  exact fun q hq => (can_mem 16 (0, 0) zero_ok root_k q hq).1
theorem cover_ok {l : List MNetPrefix} (h : setOk l = true) : setOk (outN l []) = true :=
  setOk_of (out_ok h setOk_nil) (Nat.le_trans (root_le h) (setOk_t h).2)
theorem cover_idem {l : List MNetPrefix} (h : setOk l = true) : outN (outN l []) [] = outN l [] := by
  rw [out_can (cover_ok h) setOk_nil]
  rw [out_can h setOk_nil]
  refine can_congr 16 (0, 0) zero_ok root_k fun x hx => ?_
  rw [hasF_nil, can_cov 16 (0, 0) zero_ok root_k x hx]
theorem cover_more {l : List MNetPrefix} {q : MNetPrefix} (h : setOk l = true) (hq : q ∈ l) (hl : l.length < 40) : outN (l ++ [q]) [] = outN l [] := by
  obtain ⟨h1, h2⟩ := setOk_t h
  have h3 : setOk (l ++ [q]) = true := by
    refine setOk_of (fun z hz => ?_) (by simp; omega)
    rcases List.mem_append.1 hz with hz | hz
    · exact h1 z hz
    · rw [List.mem_singleton] at hz; rw [hz]; exact h1 q hq
  rw [out_can h3 setOk_nil, out_can h setOk_nil]
  refine can_congr 16 (0, 0) zero_ok root_k fun x hx => ?_
  rw [hasF_nil, hasF_nil, anyIn_append, anyIn_one]
  cases hc : inQ (pt x) q
  · simp
  · have : anyIn (pt x) l = true := List.any_eq_true.2 ⟨q, hq, hc⟩
    rw [this]; rfl
theorem out_self (l : List MNetPrefix) : outN l l = [] := by
  unfold outN
  split
  · rename_i h
    obtain ⟨h1, h2⟩ := setOk_t h.1
    rw [part_can 16 (0, 0) l l zero_ok root_k h1 h1]
    exact can_none 16 (0, 0) zero_ok root_k fun x _ => by simp [hasF]
  · rfl
theorem out_bad {l o : List MNetPrefix} (h : setOk l = false) : outN l o = [] := by unfold outN; rw [if_neg (by rw [h]; simp)]
theorem out_bad2 {l o : List MNetPrefix} (h : setOk o = false) : outN l o = [] := by unfold outN; rw [if_neg (by rw [h]; simp)]
end Go.Proofs.Ytobgbogglilfjaa

/- Texts written and read again: plain laws. -/
import Derived.Test.YtbfgpjjempagpaaDoorTextd
set_option linter.unusedSimpArgs false
set_option linter.unusedVariables false
namespace Go.Proofs.YtbfgpjjempagpaaDoor
open Go Go.Lib
theorem pieces_join {u x y : List UInt8} {c : UInt8} (h : piecesL u c = [x, y]) : u = x ++ [c] ++ y := by
  rcases pieces_cut u c with ⟨_, h2⟩ | ⟨a, b, h1, h2 | ⟨_, h3⟩⟩
  · rw [h2] at h; cases h
  · rw [h] at h2
    injection h2 with e1 e2
    injection e2 with e2 _
    subst e1 e2
    unfold Lib.cut at h1
    rcases index_one c u with ⟨g1, g2⟩ | ⟨k, g1, g2, g3⟩
    · rw [g1, if_neg (by omega)] at h1
      cases h1
    · rw [g1, if_pos (by omega)] at h1
      simp only [Prod.mk.injEq, List.length_singleton] at h1
      have hk := List.getElem?_eq_some_iff.1 g2
      obtain ⟨hk1, hk2⟩ := hk
      have e3 : x = u.take k := by rw [← h1.1]; simp
      have e4 : y = u.drop (k + 1) := by rw [← h1.2.1]; congr 1
      rw [e3, e4, ← hk2, List.append_assoc]
      conv => lhs; rw [← List.take_append_drop k u, List.drop_eq_getElem_cons hk1]
      rfl
  · rw [h] at h3; simp at h3
theorem pieces_two {x y : List UInt8} {c : UInt8} (hx : c ∉ x) (hy : c ∉ y) : piecesL (x ++ [c] ++ y) c = [x, y] := by
  have hk : (x ++ [c] ++ y).getD x.length 0 = c := by
    rw [List.append_assoc, List.getD_eq_getElem?_getD, List.getElem?_append_right (Nat.le_refl _)]; simp
  have h0 : ∀ j, j < x.length → (x ++ [c] ++ y).getD j 0 ≠ c := fun j hj e => hx (by
    rw [List.append_assoc, List.getD_eq_getElem?_getD, List.getElem?_append_left hj, ← List.getD_eq_getElem?_getD] at e
    have := List.mem_of_getElem? (getD_mem hj)
    rwa [e] at this)
  have h1 := cutS_one hk h0 y.length (fun j h1 h2 e => hy (by
    rw [List.getD_eq_getElem?_getD, List.getElem?_append_right (by simp; omega), ← List.getD_eq_getElem?_getD] at e
    have := List.mem_of_getElem? (getD_mem (l := y) (j := j - (x ++ [c]).length) (by simp; omega))
    rwa [e] at this))
  have hl : (x ++ [c] ++ y).length = x.length + 1 + y.length := by simp; omega
  rw [piecesL, hl, h1]
  simp
theorem not_digit {n : Nat} {c : UInt8} (h : digitB c = false) : c ∉ decDigits n := fun hc => by
  have := dec_digits n c hc
  rw [h] at this; cases this
theorem dec_num_back {l : List UInt8} (h : 0 ≤ numV l) : decDigits (numV l).toNat = l := by
  unfold numV at h ⊢
  by_cases hn : numOk l = true
  · rw [if_pos hn] at h ⊢
    have := numOk_iff.1 hn
    obtain ⟨k, hk⟩ : ∃ k, l.length = k + 1 := ⟨l.length - 1, by omega⟩
    exact dec_val k l hk this.2.2.2 this.2.2.1
  · rw [if_neg hn] at h; omega
theorem inR_t {z : Int} (h : inR z = true) : 0 ≤ z ∧ z ≤ 255 := by simpa [inR] using h
theorem inR_of {z : Int} (h : 0 ≤ z ∧ z ≤ 255) : inR z = true := by simpa [inR] using h
theorem addr_back {u : List UInt8} (h : 0 ≤ addrS u) : addrText (addrS u) = u ∧ addrS u ≤ 65535 := by
  unfold addrS at h ⊢
  split at h
  · rename_i x y e
    by_cases hr : inR (numV x) = true ∧ inR (numV y) = true
    · rw [if_pos hr] at h
      have h1 := inR_t hr.1
      have h2 := inR_t hr.2
      rw [if_pos hr]
      have hin : inB (256 * numV x + numV y) 0 65535 = true := by simp [inB]; omega
      refine ⟨?_, by omega⟩
      rw [addrText, hin, cond_true, show (256 * numV x + numV y) / 256 = numV x by omega, show (256 * numV x + numV y) % 256 = numV y by omega, dec_num_back h1.1, dec_num_back h2.1]
      exact (pieces_join e).symm
    · rw [if_neg hr] at h; omega
  · omega
theorem addr_forth {a : Int} (h0 : 0 ≤ a) (h1 : a ≤ 65535) : addrS (addrText a) = a := by
  have hin : inB a 0 65535 = true := by simp [inB]; omega
  have e1 := num_dec (n := (a / 256).toNat) (by omega)
  have e2 := num_dec (n := (a % 256).toNat) (by omega)
  rw [addrText, hin, cond_true, addrS, pieces_two (not_digit (by decide)) (not_digit (by decide))]
  simp only
  rw [e1, e2, if_pos ⟨inR_of (by omega), inR_of (by omega)⟩]
  omega
theorem addr_no {a : Int} {c : UInt8} (h : digitB c = false) (hp : c ≠ 46) : c ∉ addrText a := by
  unfold addrText
  cases inB a 0 65535
  · simp
  · simp only [cond_true, List.mem_append, List.mem_singleton]
    rintro ((h1 | h1) | h1)
    · exact not_digit h h1
    · exact hp h1
    · exact not_digit h h1
theorem parse_back {l : List UInt8} {a n : Int} (h : parseS l = ((a, n), true)) : okP a n = true ∧ netText a n = l := by
  unfold parseS at h
  split at h
  · rename_i x y e
    by_cases hk : okP (addrS x) (numV y) = true
    · rw [if_pos hk] at h
      simp only [Prod.mk.injEq, and_true] at h
      obtain ⟨rfl, rfl⟩ := h
      refine ⟨hk, ?_⟩
      have hp := okP_t hk
      rw [netText, hk, cond_true, (addr_back hp.2.2.1).1, dec_num_back hp.1]
      exact (pieces_join e).symm
    · rw [if_neg hk] at h
      simp at h
  · simp at h
/-- a text read: as what, and written again -/
theorem parse_case (l : List UInt8) : parseS l = ((0, 0), false) ∨ ∃ a n : Int, parseS l = ((a, n), true) ∧ okP a n = true ∧ netText a n = l := by
  have h : parseS l = ((0, 0), false) ∨ ∃ a n : Int, parseS l = ((a, n), true) := by
    unfold parseS
    split
    · split
      · exact .inr ⟨_, _, rfl⟩
      · exact .inl rfl
    · exact .inl rfl
  rcases h with h | ⟨a, n, h⟩
  · exact .inl h
  · exact .inr ⟨a, n, h, parse_back h⟩
theorem parse_forth {a n : Int} (h : okP a n = true) : parseS (netText a n) = ((a, n), true) := by
  have hp := okP_t h
  have e1 := num_dec (n := n.toNat) (by omega)
  have e2 : ((n.toNat : Nat) : Int) = n := by omega
  rw [netText, h, cond_true, parseS, pieces_two (addr_no (by decide) (by decide)) (not_digit (by decide))]
  simp only
  rw [e1, e2, addr_forth hp.2.2.1 hp.2.2.2, if_pos h]
theorem parse_none {a n : Int} (h : okP a n = false) : parseS (netText a n) = ((0, 0), false) := by
  rw [netText, h]
  rfl
end Go.Proofs.YtbfgpjjempagpaaDoor

/- Prefixes: the contracts of the functions on one prefix. -/
import Derived.Test.YtnkbaojmalkchaaBas
set_option linter.unusedSimpArgs false
set_option linter.unusedVariables false
namespace Go.Proofs.Ytnkbaojmalkchaa
open Go Go.RowKit
attribute [local irreducible] GoS GoC GoE IsFl IsSc IsRw IsSl IsEl IsSt IsFs sp Mem Rd LenOf
def size (l : Int) : Int := 2 ^ (16 - l).toNat
theorem size_pos (l : Int) : 1 ≤ size l := by have : 0 < (2:Int) ^ (16 - l).toNat := Int.pow_pos (by omega); unfold size; omega
theorem size_le (l : Int) (h : 0 ≤ l) : size l ≤ 65536 := by
  unfold size
  obtain ⟨n, hn⟩ : ∃ n : Nat, n = (16 - l).toNat := ⟨_, rfl⟩
  rw [← hn]
  have h16 : n ≤ 16 := by omega
  have := Nat.pow_le_pow_right (n := 2) (by omega) h16
  have h2 : ((2 ^ n : Nat) : Int) ≤ ((2 ^ 16 : Nat) : Int) := by exact_mod_cast this
  have h3 : ((2 ^ n : Nat) : Int) = (2:Int) ^ n := by simp
  rw [← h3]; simpa using h2
theorem size_step (l : Int) (h1 : l < 16) : size l = 2 * size (l + 1) := by
  unfold size
  obtain ⟨k, hk⟩ : ∃ k : Nat, (16 - (l + 1)).toNat = k := ⟨_, rfl⟩
  have h2 : (16 - l).toNat = k + 1 := by omega
  rw [h2, hk, Int.pow_succ]; omega
theorem size_half (l : Int) (h : l < 16) : size l / 2 = size (l + 1) := by rw [size_step l h]; omega
/-- the prefix is ok -/
def okP (a l : Int) : Bool := inB l 0 16 && inB a 0 65535 && decide (a % size l = 0)
theorem okP_t {a l : Int} (h : okP a l = true) : 0 ≤ l ∧ l ≤ 16 ∧ 0 ≤ a ∧ a ≤ 65535 := by
  simp only [okP, Bool.and_eq_true] at h
  have := inB_t h.1.1; have := inB_t h.1.2; omega
def hasP (a l x : Int) : Bool := decide (a ≤ x) && decide (x < a + size l)
def withinP (a l b m : Int) : Bool := decide (m ≤ l) && hasP b m a

def halfOk (a l : Int) : Bool := okP a l && !(decide (l = 16))
def hvI (a l x : Int) : Value := .int .i64 (bif halfOk a l then x else 0)
def halvesV (a l : Int) : Value := .tuple #[.agg #[hvI a l a, hvI a l (l + 1)], .agg #[hvI a l (a + size (l + 1)), hvI a l (l + 1)], .bool (halfOk a l)]
end Go.Proofs.Ytnkbaojmalkchaa

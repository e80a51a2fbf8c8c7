/- The functions that say whether a number lies between two others. -/
import Derived.Test.YtcjacolkmclloaaTypes
set_option linter.unusedSimpArgs false
set_option linter.unusedVariables false
namespace Go.Proofs.Ytcjacolkmclloaa
open Go Go.RowKit
attribute [local irreducible] GoS GoC GoE IsFl IsSc IsRw IsSl IsEl IsSt IsFs sp Mem Rd LenOf
def inB (n lo hi : Int) : Bool := decide (lo ≤ n) && decide (n ≤ hi)
theorem inB_t {n lo hi : Int} (h : inB n lo hi = true) : lo ≤ n ∧ n ≤ hi := by simpa [inB] using h
/-- what is left of a bound b behind n elements: -1: too many -/
def szR (b : Int) (n : Nat) : Int := if b - n < 0 then -1 else b - n
theorem szR_ok {b : Int} {n : Nat} (h : ¬ szR b n < 0) : (n : Int) ≤ b ∧ szR b n = b - n := by
  unfold szR at h ⊢
  split
  · rename_i h2; rw [if_pos h2] at h; omega
  · exact ⟨by omega, rfl⟩
end Go.Proofs.Ytcjacolkmclloaa

/- Contracts with told results, for the law of prefixes. -/
import Derived.Test.YtobgbogglilfjaaNetr
set_option linter.unusedSimpArgs false
set_option linter.unusedVariables false
namespace Go.Proofs.Ytobgbogglilfjaa
open Go Go.RowKit
attribute [local irreducible] Calls GoS GoC GoE GoT IsFl IsSc IsRw IsSl IsEl IsSt IsFs sp Mem Rd LenOf szR
theorem implNetIn_l {a n b m : Int} {c : Bool} (h : (okP a n && okP b m && withinP a n b m) = c) (w : World) : Calls Try.prog 20 #[.agg #[.int .i64 a, .int .i64 n], .agg #[.int .i64 b, .int .i64 m]] w (RetN (.bool c) w) := by
  have := implNetIn_c a n b m w
  rwa [h] at this
theorem specNetIn_l {a n b m : Int} {c : Bool} (h : (okP a n && okP b m && withinP a n b m) = c) (w : World) : Calls Try.prog 19 #[.agg #[.int .i64 a, .int .i64 n], .agg #[.int .i64 b, .int .i64 m]] w (RetN (.bool c) w) := by
  have := specNetIn_c a n b m w
  rwa [h] at this
theorem implNetHas_l {a n x : Int} {c : Bool} (h : (okP a n && hasP a n x) = c) (w : World) : Calls Try.prog 18 #[.agg #[.int .i64 a, .int .i64 n], .int .i64 x] w (RetN (.bool c) w) := by
  have := implNetHas_c a n x w
  rwa [h] at this
theorem specNetHas_l {a n x : Int} {c : Bool} (h : (okP a n && hasP a n x) = c) (w : World) : Calls Try.prog 17 #[.agg #[.int .i64 a, .int .i64 n], .int .i64 x] w (RetN (.bool c) w) := by
  have := specNetHas_c a n x w
  rwa [h] at this
theorem implNetOk_l {a n : Int} {b : Bool} (h : okP a n = b) (w : World) : Calls Try.prog 16 #[.agg #[.int .i64 a, .int .i64 n]] w (RetN (.bool b) w) := by
  have := implNetOk_c a n w
  rwa [h] at this
/-- the halves: within, apart, and all -/
theorem halves_all {a n x : Int} (h : okP a n = true) (hn : n < 16) : (okP a (n + 1) && okP a n && withinP a (n + 1) a n) = true ∧ (okP (a + size (n + 1)) (n + 1) && okP a n && withinP (a + size (n + 1)) (n + 1) a n) = true ∧
    (okP a (n + 1) && okP (a + size (n + 1)) (n + 1) && withinP a (n + 1) (a + size (n + 1)) (n + 1)) = false ∧ (okP (a + size (n + 1)) (n + 1) && okP a (n + 1) && withinP (a + size (n + 1)) (n + 1) a (n + 1)) = false ∧
    (okP a n && hasP a n x) = ((okP a (n + 1) && hasP a (n + 1) x) || (okP (a + size (n + 1)) (n + 1) && hasP (a + size (n + 1)) (n + 1) x)) := by
  obtain ⟨k1, k2⟩ := lowQ_ok (p := (a, n)) h hn
  obtain ⟨k3, k4⟩ := highQ_ok (p := (a, n)) h hn
  have k1 : okP a (n + 1) = true := k1
  have k2 : withinP a (n + 1) a n = true := k2
  have k3 : okP (a + size (n + 1)) (n + 1) = true := k3
  have k4 : withinP (a + size (n + 1)) (n + 1) a n = true := k4
  have hs := size_pos (n + 1)
  have h2 := size_step n hn
  refine ⟨by simp [h, k1, k2], by simp [h, k3, k4], ?_, ?_, ?_⟩
  · simp only [k1, k3, Bool.true_and, withinP, hasP, Bool.and_eq_false_iff, decide_eq_false_iff_not]; omega
  · simp only [k1, k3, Bool.true_and, withinP, hasP, Bool.and_eq_false_iff, decide_eq_false_iff_not]; omega
  · simp only [h, k1, k3, Bool.true_and, hasP]
    rw [Bool.eq_iff_iff]
    simp only [Bool.or_eq_true, Bool.and_eq_true, decide_eq_true_eq]
    omega
end Go.Proofs.Ytobgbogglilfjaa

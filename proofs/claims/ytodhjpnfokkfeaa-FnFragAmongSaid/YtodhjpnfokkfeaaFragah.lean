/- A tick passes on a bench: by both the same. -/
import Derived.Test.YtodhjpnfokkfeaaFragag
set_option linter.unusedSimpArgs false
set_option linter.unusedVariables false
namespace Go.Proofs.Ytodhjpnfokkfeaa
open Go Go.RowKit
attribute [local irreducible] Calls GoS GoC GoE GoT Mid IsEq IsFl IsSc IsRw IsSl IsEl IsSt IsFs sp Mem Rd LenOf szR joinC alikeC likeC

/-- the range of a good bench's time -/
theorem good_now {b : CFragBench} (h : BenchGood b) : 0 ≤ b.1 ∧ b.1 ≤ 1000000 ∧ b.2.length ≤ 4 := ⟨h.1, h.2.1, h.2.2.1⟩
theorem Ent.sublist {w0 : World} {R : List Blk} {xs ys : List Row} (h : ys.Sublist xs) : Ent w0 (.many xs :: R) (.many ys :: R) :=
  Ent.swap (fun w ho => ⟨fun x hx => ho.1 x (h.subset hx), ho.2.sublist h⟩) (fun k hk => by
    obtain ⟨x, hx, hk⟩ := hk
    exact ⟨x, h.subset hx, hk⟩)
end Go.Proofs.Ytodhjpnfokkfeaa

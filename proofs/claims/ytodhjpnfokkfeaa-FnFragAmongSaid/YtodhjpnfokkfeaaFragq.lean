/- Drawn packets, spoilt ones among them. -/
import Derived.Test.YtodhjpnfokkfeaaFragp
set_option linter.unusedSimpArgs false
set_option linter.unusedVariables false
namespace Go.Proofs.Ytodhjpnfokkfeaa
open Go Go.RowKit
attribute [local irreducible] Calls GoS GoC GoE GoT Mid IsEq IsFl IsSc IsRw IsSl IsEl IsSt IsFs sp Mem Rd LenOf szR
/-- small numbers, but for the offset -/
structure SmallW (c : CFragPacket) : Prop where
  h0 : -70000 ≤ c.1 ∧ c.1 ≤ 70000
  h1 : -70000 ≤ c.2.1 ∧ c.2.1 ≤ 70000
  h2 : -70000 ≤ c.2.2.1 ∧ c.2.2.1 ≤ 70000
  h3 : -70000 ≤ c.2.2.2.1 ∧ c.2.2.2.1 ≤ 70000
  h4 : -70000 ≤ c.2.2.2.2.1 ∧ c.2.2.2.2.1 ≤ 70000
  off : -140000 ≤ offP c ∧ offP c ≤ 4611686018427387904 + 70000
  len : (datP c).length ≤ 200
  byte : ∀ b ∈ datP c, 0 ≤ b ∧ b ≤ 255
theorem Small.wide {c : CFragPacket} (h : Small c) : SmallW c := ⟨h.h0, h.h1, h.h2, h.h3, h.h4, by have := h.off; omega, h.len, h.byte⟩
end Go.Proofs.Ytodhjpnfokkfeaa

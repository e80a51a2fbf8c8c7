/- A piece taken on a bench: the reference. -/
import Derived.Test.YtodhjpnfokkfeaaFragal
set_option linter.unusedSimpArgs false
set_option linter.unusedVariables false
namespace Go.Proofs.Ytodhjpnfokkfeaa
open Go Go.RowKit
/-- a slot's pieces and payloads are short -/
def okS (c : CFragSlot) : Prop := c.1.length ≤ 1048576 ∧ ∀ q ∈ c.1, q.2.2.2.2.2.2.2.2.length ≤ 1048576
theorem short_ct {l : List MFragSlot} (h : ∀ c ∈ l.map ctFragSlot, okS c) : Short l := fun s hs => by
  have h1 := h _ (List.mem_map.2 ⟨s, hs, rfl⟩)
  refine ⟨?_, fun p hp => h1.2 (ctFragPacket p) (List.mem_map.2 ⟨p, hp, rfl⟩)⟩
  have h2 : (s.1.2.map ctFragPacket).length ≤ 1048576 := h1.1
  rwa [List.length_map] at h2
attribute [local irreducible] Calls GoS GoC GoE GoT Mid IsEq IsFl IsSc IsRw IsSl IsEl IsSt IsFs sp Mem Rd LenOf szR joinC alikeC likeC
end Go.Proofs.Ytodhjpnfokkfeaa

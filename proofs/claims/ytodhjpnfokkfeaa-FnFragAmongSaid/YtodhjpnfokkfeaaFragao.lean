/- What a piece taken leaves: sizes; both functions' answers told by one law. -/
import Derived.Test.YtodhjpnfokkfeaaFragan
import Derived.Test.YtodhjpnfokkfeaaFraga
set_option linter.unusedSimpArgs false
set_option linter.unusedVariables false
namespace Go.Proofs.Ytodhjpnfokkfeaa
open Go Go.RowKit
attribute [local irreducible] Calls GoS GoC GoE GoT Mid IsEq IsFl IsSc IsRw IsSl IsEl IsSt IsFs sp Mem Rd LenOf szR joinC alikeC likeC takeC
abbrev TakeX (tb : CFragBench) (tp : CFragPacket) (tk : Int) (w : World) : Ending → World → Prop := RetX (fun q : MFragBench × MFragPacket => ctFragBench q.1 = tb ∧ ctFragPacket q.2 = tp) (fun q => .tuple #[.agg (clFragBench q.1).toArray, .agg (clFragPacket q.2).toArray, .int .i64 tk]) (fun q => [.many (rwFragBench q.1), .many (rwFragPacket q.2)]) w
theorem takeX_of {f : Nat} {args : Array Value} {w : World} {T : CFragBench × CFragPacket × Int} {tb : CFragBench} {tp : CFragPacket} {tk : Int} (hT : T = (tb, tp, tk)) (h : Calls Try.prog f args w (RetX (fun q : MFragBench × MFragPacket × Int => T = (ctFragBench q.1, ctFragPacket q.2.1, q.2.2)) (fun q => .tuple #[.agg (clFragBench q.1).toArray, .agg (clFragPacket q.2.1).toArray, .int .i64 q.2.2]) (fun q => [.many (rwFragBench q.1), .many (rwFragPacket q.2.1)]) w)) : Calls Try.prog f args w (TakeX tb tp tk w) := by
  refine h.mono ?_
  rintro e w' ⟨⟨b, q, k⟩, h1, h2, h3⟩
  dsimp only at h1 h2 h3
  rw [hT] at h1
  simp only [Prod.mk.injEq] at h1
  obtain ⟨rfl, rfl, rfl⟩ := h1
  exact ⟨(b, q), ⟨rfl, rfl⟩, h2, h3⟩
end Go.Proofs.Ytodhjpnfokkfeaa

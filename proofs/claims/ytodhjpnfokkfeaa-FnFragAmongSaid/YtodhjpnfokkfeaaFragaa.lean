/- A drawn packet, and its pieces cut in two ways, turned around and doubled. -/
import Derived.Test.YtodhjpnfokkfeaaFragz
import Derived.Test.YtodhjpnfokkfeaaFragv
import Derived.Test.YtodhjpnfokkfeaaSymi
set_option linter.unusedSimpArgs false
set_option linter.unusedVariables false
namespace Go.Proofs.Ytodhjpnfokkfeaa
open Go Go.RowKit
theorem cut_code {c : CFragPacket} {m : Int} (hok : fragOk c = true) (hw : c.2.2.2.2.2.1 = false) (hm : 12 ≤ m) : (cutC c m).2 = 0 := by
  unfold cutC
  rw [if_pos hok, if_neg (by omega)]
  split
  · rfl
  · rw [hw]; rfl
/-- a packet of which the first k bytes are kept -/
def headP (x : MFragPacket) (k : Nat) : MFragPacket := (x.1, x.2.1, x.2.2.1, x.2.2.2.1, x.2.2.2.2.1, x.2.2.2.2.2.1, x.2.2.2.2.2.2.1, x.2.2.2.2.2.2.2.1, subV x.2.2.2.2.2.2.2.2.1 1 0 k, x.2.2.2.2.2.2.2.2.2.take k)
attribute [local irreducible] Calls GoS GoC GoE GoT Mid IsEq IsFl IsSc IsRw IsSl IsEl IsSt IsFs sp Mem Rd LenOf szR
/-- a whole packet -/
structure Whole0 (c : CFragPacket) : Prop where
  ok : fragOk c = true
  whole : c.2.2.2.2.2.1 = false
  off : offP c = 0
  more : moreP c = false
theorem inB_self (l : List MFragPacket) : InB l (l.flatMap rwFragPacket) := fun y hy _ hr => List.mem_flatMap.2 ⟨y, hy, hr⟩
attribute [local irreducible] fragOk
end Go.Proofs.Ytodhjpnfokkfeaa

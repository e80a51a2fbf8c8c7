/- What the arguments mean: a list of cells for each type, and what is so of it in memory. -/
import Derived.Test.YtodhjpnfokkfeaaTypes
set_option linter.unusedSimpArgs false
set_option linter.unusedVariables false
namespace Go.Proofs.Ytodhjpnfokkfeaa
open Go
abbrev MSuint8 := Value × List (Int)
def okSuint8 (w : World) (x : MSuint8) : Prop := Mem w x.1 1 x.2.length (x.2.flatMap (fun y : Int => [.int .u8 y])) ∧ ∀ y ∈ x.2, (0 ≤ y ∧ y ≤ 255)
abbrev MFragPacket := Int × Int × Int × Int × Int × Bool × Int × Bool × MSuint8
def clFragPacket (x : MFragPacket) : List Value := [.int .i64 x.1, .int .i64 x.2.1, .int .i64 x.2.2.1, .int .i64 x.2.2.2.1, .int .i64 x.2.2.2.2.1, .bool x.2.2.2.2.2.1, .int .i64 x.2.2.2.2.2.2.1, .bool x.2.2.2.2.2.2.2.1, x.2.2.2.2.2.2.2.2.1]
def okFragPacket (w : World) (x : MFragPacket) : Prop := (-9223372036854775808 ≤ x.1 ∧ x.1 ≤ 9223372036854775807) ∧ (-9223372036854775808 ≤ x.2.1 ∧ x.2.1 ≤ 9223372036854775807) ∧ (-9223372036854775808 ≤ x.2.2.1 ∧ x.2.2.1 ≤ 9223372036854775807) ∧ (-9223372036854775808 ≤ x.2.2.2.1 ∧ x.2.2.2.1 ≤ 9223372036854775807) ∧ (-9223372036854775808 ≤ x.2.2.2.2.1 ∧ x.2.2.2.2.1 ≤ 9223372036854775807) ∧ (-9223372036854775808 ≤ x.2.2.2.2.2.2.1 ∧ x.2.2.2.2.2.2.1 ≤ 9223372036854775807) ∧ (okSuint8 w x.2.2.2.2.2.2.2.2)
abbrev MSFragPacket := Value × List (MFragPacket)
def okSFragPacket (w : World) (x : MSFragPacket) : Prop := Mem w x.1 9 x.2.length (x.2.flatMap clFragPacket) ∧ ∀ y ∈ x.2, (okFragPacket w y)
abbrev MFragSlot := MSFragPacket × Int × Bool
def clFragSlot (x : MFragSlot) : List Value := [x.1.1, .int .i64 x.2.1, .bool x.2.2]
def okFragSlot (w : World) (x : MFragSlot) : Prop := (okSFragPacket w x.1) ∧ (-9223372036854775808 ≤ x.2.1 ∧ x.2.1 ≤ 9223372036854775807)
abbrev MSFragSlot := Value × List (MFragSlot)
def okSFragSlot (w : World) (x : MSFragSlot) : Prop := Mem w x.1 3 x.2.length (x.2.flatMap clFragSlot) ∧ ∀ y ∈ x.2, (okFragSlot w y)
abbrev MFragBench := Int × MSFragSlot
def clFragBench (x : MFragBench) : List Value := [.int .i64 x.1, x.2.1]
def okFragBench (w : World) (x : MFragBench) : Prop := (-9223372036854775808 ≤ x.1 ∧ x.1 ≤ 9223372036854775807) ∧ (okSFragSlot w x.2)
end Go.Proofs.Ytodhjpnfokkfeaa

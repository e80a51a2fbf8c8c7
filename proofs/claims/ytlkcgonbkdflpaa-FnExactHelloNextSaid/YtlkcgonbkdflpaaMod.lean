/- What the arguments mean: a list of cells for each type, and what is so of it in memory. -/
import Derived.Test.YtlkcgonbkdflpaaTypes
set_option linter.unusedSimpArgs false
set_option linter.unusedVariables false
namespace Go.Proofs.Ytlkcgonbkdflpaa
open Go
abbrev MHelloKey := Int × Int
def clHelloKey (x : MHelloKey) : List Value := [.int .i64 x.1, .int .i64 x.2]
def okHelloKey (_ : World) (x : MHelloKey) : Prop := (-9223372036854775808 ≤ x.1 ∧ x.1 ≤ 9223372036854775807) ∧ (-9223372036854775808 ≤ x.2 ∧ x.2 ≤ 9223372036854775807)
abbrev MSHelloKey := Value × List (MHelloKey)
def okSHelloKey (w : World) (x : MSHelloKey) : Prop := Mem w x.1 2 x.2.length (x.2.flatMap clHelloKey) ∧ ∀ y ∈ x.2, (okHelloKey w y)
abbrev MHelloEntry := Int × Int × Int × Int
def clHelloEntry (x : MHelloEntry) : List Value := [.int .i64 x.1, .int .i64 x.2.1, .int .i64 x.2.2.1, .int .i64 x.2.2.2]
def okHelloEntry (_ : World) (x : MHelloEntry) : Prop := (-9223372036854775808 ≤ x.1 ∧ x.1 ≤ 9223372036854775807) ∧ (-9223372036854775808 ≤ x.2.1 ∧ x.2.1 ≤ 9223372036854775807) ∧ (-9223372036854775808 ≤ x.2.2.1 ∧ x.2.2.1 ≤ 9223372036854775807) ∧ (-9223372036854775808 ≤ x.2.2.2 ∧ x.2.2.2 ≤ 9223372036854775807)
abbrev MSHelloEntry := Value × List (MHelloEntry)
def okSHelloEntry (w : World) (x : MSHelloEntry) : Prop := Mem w x.1 4 x.2.length (x.2.flatMap clHelloEntry) ∧ ∀ y ∈ x.2, (okHelloEntry w y)
abbrev MHelloChange := Int × MHelloEntry
def clHelloChange (x : MHelloChange) : List Value := [.int .i64 x.1, .int .i64 x.2.1, .int .i64 x.2.2.1, .int .i64 x.2.2.2.1, .int .i64 x.2.2.2.2]
def okHelloChange (w : World) (x : MHelloChange) : Prop := (-9223372036854775808 ≤ x.1 ∧ x.1 ≤ 9223372036854775807) ∧ (okHelloEntry w x.2)
abbrev MHelloRoute := MHelloEntry × Bool
def clHelloRoute (x : MHelloRoute) : List Value := [.int .i64 x.1.1, .int .i64 x.1.2.1, .int .i64 x.1.2.2.1, .int .i64 x.1.2.2.2, .bool x.2]
def okHelloRoute (w : World) (x : MHelloRoute) : Prop := (okHelloEntry w x.1)
abbrev MSHelloRoute := Value × List (MHelloRoute)
def okSHelloRoute (w : World) (x : MSHelloRoute) : Prop := Mem w x.1 5 x.2.length (x.2.flatMap clHelloRoute) ∧ ∀ y ∈ x.2, (okHelloRoute w y)
abbrev MHelloEnd := Int × Int × MSHelloKey × Int × MSHelloEntry × Int × Int × Int × Bool × Int × Int × MHelloChange × MSHelloEntry × Bool × Int × Bool × MSHelloRoute × Int
def clHelloEnd (x : MHelloEnd) : List Value := [.int .i64 x.1, .int .i64 x.2.1, x.2.2.1.1, .int .i64 x.2.2.2.1, x.2.2.2.2.1.1, .int .i64 x.2.2.2.2.2.1, .int .i64 x.2.2.2.2.2.2.1, .int .i64 x.2.2.2.2.2.2.2.1, .bool x.2.2.2.2.2.2.2.2.1, .int .i64 x.2.2.2.2.2.2.2.2.2.1, .int .i64 x.2.2.2.2.2.2.2.2.2.2.1, .int .i64 x.2.2.2.2.2.2.2.2.2.2.2.1.1, .int .i64 x.2.2.2.2.2.2.2.2.2.2.2.1.2.1, .int .i64 x.2.2.2.2.2.2.2.2.2.2.2.1.2.2.1, .int .i64 x.2.2.2.2.2.2.2.2.2.2.2.1.2.2.2.1, .int .i64 x.2.2.2.2.2.2.2.2.2.2.2.1.2.2.2.2, x.2.2.2.2.2.2.2.2.2.2.2.2.1.1, .bool x.2.2.2.2.2.2.2.2.2.2.2.2.2.1, .int .i64 x.2.2.2.2.2.2.2.2.2.2.2.2.2.2.1, .bool x.2.2.2.2.2.2.2.2.2.2.2.2.2.2.2.1, x.2.2.2.2.2.2.2.2.2.2.2.2.2.2.2.2.1.1, .int .i64 x.2.2.2.2.2.2.2.2.2.2.2.2.2.2.2.2.2]
def okHelloEnd (w : World) (x : MHelloEnd) : Prop := (-9223372036854775808 ≤ x.1 ∧ x.1 ≤ 9223372036854775807) ∧ (-9223372036854775808 ≤ x.2.1 ∧ x.2.1 ≤ 9223372036854775807) ∧ (okSHelloKey w x.2.2.1) ∧ (-9223372036854775808 ≤ x.2.2.2.1 ∧ x.2.2.2.1 ≤ 9223372036854775807) ∧ (okSHelloEntry w x.2.2.2.2.1) ∧ (-9223372036854775808 ≤ x.2.2.2.2.2.1 ∧ x.2.2.2.2.2.1 ≤ 9223372036854775807) ∧ (-9223372036854775808 ≤ x.2.2.2.2.2.2.1 ∧ x.2.2.2.2.2.2.1 ≤ 9223372036854775807) ∧ (-9223372036854775808 ≤ x.2.2.2.2.2.2.2.1 ∧ x.2.2.2.2.2.2.2.1 ≤ 9223372036854775807) ∧ (-9223372036854775808 ≤ x.2.2.2.2.2.2.2.2.2.1 ∧ x.2.2.2.2.2.2.2.2.2.1 ≤ 9223372036854775807) ∧ (-9223372036854775808 ≤ x.2.2.2.2.2.2.2.2.2.2.1 ∧ x.2.2.2.2.2.2.2.2.2.2.1 ≤ 9223372036854775807) ∧ (okHelloChange w x.2.2.2.2.2.2.2.2.2.2.2.1) ∧ (okSHelloEntry w x.2.2.2.2.2.2.2.2.2.2.2.2.1) ∧ (-9223372036854775808 ≤ x.2.2.2.2.2.2.2.2.2.2.2.2.2.2.1 ∧ x.2.2.2.2.2.2.2.2.2.2.2.2.2.2.1 ≤ 9223372036854775807) ∧ (okSHelloRoute w x.2.2.2.2.2.2.2.2.2.2.2.2.2.2.2.2.1) ∧ (-9223372036854775808 ≤ x.2.2.2.2.2.2.2.2.2.2.2.2.2.2.2.2.2 ∧ x.2.2.2.2.2.2.2.2.2.2.2.2.2.2.2.2.2 ≤ 9223372036854775807)
end Go.Proofs.Ytlkcgonbkdflpaa

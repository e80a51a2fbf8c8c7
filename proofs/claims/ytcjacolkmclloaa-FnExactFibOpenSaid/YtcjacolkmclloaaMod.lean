/- What the arguments mean: a list of cells for each type, and what is so of it in memory. -/
import Derived.Test.YtcjacolkmclloaaTypes
set_option linter.unusedSimpArgs false
set_option linter.unusedVariables false
namespace Go.Proofs.Ytcjacolkmclloaa
open Go
abbrev MFibHop := Int × Int
def clFibHop (x : MFibHop) : List Value := [.int .i64 x.1, .int .i64 x.2]
def okFibHop (_ : World) (x : MFibHop) : Prop := (-9223372036854775808 ≤ x.1 ∧ x.1 ≤ 9223372036854775807) ∧ (-9223372036854775808 ≤ x.2 ∧ x.2 ≤ 9223372036854775807)
abbrev MSFibHop := Value × List (MFibHop)
def okSFibHop (w : World) (x : MSFibHop) : Prop := Mem w x.1 2 x.2.length (x.2.flatMap clFibHop) ∧ ∀ y ∈ x.2, (okFibHop w y)
abbrev MFibCell := Bool × Int × Int × MSFibHop
def clFibCell (x : MFibCell) : List Value := [.bool x.1, .int .i64 x.2.1, .int .i64 x.2.2.1, x.2.2.2.1]
def okFibCell (w : World) (x : MFibCell) : Prop := (-9223372036854775808 ≤ x.2.1 ∧ x.2.1 ≤ 9223372036854775807) ∧ (-9223372036854775808 ≤ x.2.2.1 ∧ x.2.2.1 ≤ 9223372036854775807) ∧ (okSFibHop w x.2.2.2)
abbrev MSFibCell := Value × List (MFibCell)
def okSFibCell (w : World) (x : MSFibCell) : Prop := Mem w x.1 4 x.2.length (x.2.flatMap clFibCell) ∧ ∀ y ∈ x.2, (okFibCell w y)
abbrev MFibOld := Int × Int
def clFibOld (x : MFibOld) : List Value := [.int .i64 x.1, .int .i64 x.2]
def okFibOld (_ : World) (x : MFibOld) : Prop := (-9223372036854775808 ≤ x.1 ∧ x.1 ≤ 9223372036854775807) ∧ (-9223372036854775808 ≤ x.2 ∧ x.2 ≤ 9223372036854775807)
abbrev MSFibOld := Value × List (MFibOld)
def okSFibOld (w : World) (x : MSFibOld) : Prop := Mem w x.1 2 x.2.length (x.2.flatMap clFibOld) ∧ ∀ y ∈ x.2, (okFibOld w y)
abbrev MFibReader := Bool × Int × Int × Int × Int × Int × MSFibHop
def clFibReader (x : MFibReader) : List Value := [.bool x.1, .int .i64 x.2.1, .int .i64 x.2.2.1, .int .i64 x.2.2.2.1, .int .i64 x.2.2.2.2.1, .int .i64 x.2.2.2.2.2.1, x.2.2.2.2.2.2.1]
def okFibReader (w : World) (x : MFibReader) : Prop := (-9223372036854775808 ≤ x.2.1 ∧ x.2.1 ≤ 9223372036854775807) ∧ (-9223372036854775808 ≤ x.2.2.1 ∧ x.2.2.1 ≤ 9223372036854775807) ∧ (-9223372036854775808 ≤ x.2.2.2.1 ∧ x.2.2.2.1 ≤ 9223372036854775807) ∧ (-9223372036854775808 ≤ x.2.2.2.2.1 ∧ x.2.2.2.2.1 ≤ 9223372036854775807) ∧ (-9223372036854775808 ≤ x.2.2.2.2.2.1 ∧ x.2.2.2.2.2.1 ≤ 9223372036854775807) ∧ (okSFibHop w x.2.2.2.2.2.2)
abbrev MSFibReader := Value × List (MFibReader)
def okSFibReader (w : World) (x : MSFibReader) : Prop := Mem w x.1 7 x.2.length (x.2.flatMap clFibReader) ∧ ∀ y ∈ x.2, (okFibReader w y)
abbrev MFibStore := MSFibCell × Int × Int × MSFibOld × MSFibReader
def clFibStore (x : MFibStore) : List Value := [x.1.1, .int .i64 x.2.1, .int .i64 x.2.2.1, x.2.2.2.1.1, x.2.2.2.2.1]
def okFibStore (w : World) (x : MFibStore) : Prop := (okSFibCell w x.1) ∧ (-9223372036854775808 ≤ x.2.1 ∧ x.2.1 ≤ 9223372036854775807) ∧ (-9223372036854775808 ≤ x.2.2.1 ∧ x.2.2.1 ≤ 9223372036854775807) ∧ (okSFibOld w x.2.2.2.1) ∧ (okSFibReader w x.2.2.2.2)
end Go.Proofs.Ytcjacolkmclloaa

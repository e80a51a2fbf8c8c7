/- What the arguments mean: a list of cells for each type, and what is so of it in memory. -/
import Derived.Test.YtencglgaldaaiaaTypes
set_option linter.unusedSimpArgs false
set_option linter.unusedVariables false
namespace Go.Proofs.Ytencglgaldaaiaa
open Go
abbrev MFibHop := Int × Int
def clFibHop (x : MFibHop) : List Value := [.int .i64 x.1, .int .i64 x.2]
def okFibHop (_ : World) (x : MFibHop) : Prop := (-9223372036854775808 ≤ x.1 ∧ x.1 ≤ 9223372036854775807) ∧ (-9223372036854775808 ≤ x.2 ∧ x.2 ≤ 9223372036854775807)
abbrev MSuint8 := Value × List (Int)
def okSuint8 (w : World) (x : MSuint8) : Prop := Mem w x.1 1 x.2.length (x.2.flatMap (fun y : Int => [.int .u8 y])) ∧ ∀ y ∈ x.2, (0 ≤ y ∧ y ≤ 255)
abbrev MSFibHop := Value × List (MFibHop)
def okSFibHop (w : World) (x : MSFibHop) : Prop := Mem w x.1 2 x.2.length (x.2.flatMap clFibHop) ∧ ∀ y ∈ x.2, (okFibHop w y)
abbrev MFibRoute := Int × Int × MSFibHop
def clFibRoute (x : MFibRoute) : List Value := [.int .i64 x.1, .int .i64 x.2.1, x.2.2.1]
def okFibRoute (w : World) (x : MFibRoute) : Prop := (-9223372036854775808 ≤ x.1 ∧ x.1 ≤ 9223372036854775807) ∧ (-9223372036854775808 ≤ x.2.1 ∧ x.2.1 ≤ 9223372036854775807) ∧ (okSFibHop w x.2.2)
abbrev MSFibRoute := Value × List (MFibRoute)
def okSFibRoute (w : World) (x : MSFibRoute) : Prop := Mem w x.1 3 x.2.length (x.2.flatMap clFibRoute) ∧ ∀ y ∈ x.2, (okFibRoute w y)
end Go.Proofs.Ytencglgaldaaiaa

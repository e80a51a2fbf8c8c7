/- What the arguments mean: a list of cells for each type, and what is so of it in memory. -/
import Derived.Test.YtoabadliblkemaaTypes
set_option linter.unusedSimpArgs false
set_option linter.unusedVariables false
namespace Go.Proofs.Ytoabadliblkemaa
open Go
abbrev MNetPrefix := Int × Int
def clNetPrefix (x : MNetPrefix) : List Value := [.int .i64 x.1, .int .i64 x.2]
def okNetPrefix (_ : World) (x : MNetPrefix) : Prop := (-9223372036854775808 ≤ x.1 ∧ x.1 ≤ 9223372036854775807) ∧ (-9223372036854775808 ≤ x.2 ∧ x.2 ≤ 9223372036854775807)
abbrev MAclRule := Bool × MNetPrefix × MNetPrefix × Int
def clAclRule (x : MAclRule) : List Value := [.bool x.1, .int .i64 x.2.1.1, .int .i64 x.2.1.2, .int .i64 x.2.2.1.1, .int .i64 x.2.2.1.2, .int .i64 x.2.2.2]
def okAclRule (w : World) (x : MAclRule) : Prop := (okNetPrefix w x.2.1) ∧ (okNetPrefix w x.2.2.1) ∧ (-9223372036854775808 ≤ x.2.2.2 ∧ x.2.2.2 ≤ 9223372036854775807)
abbrev MSAclRule := Value × List (MAclRule)
def okSAclRule (w : World) (x : MSAclRule) : Prop := Mem w x.1 6 x.2.length (x.2.flatMap clAclRule) ∧ ∀ y ∈ x.2, (okAclRule w y)
end Go.Proofs.Ytoabadliblkemaa

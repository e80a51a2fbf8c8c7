/- What the arguments mean: a list of cells for each type, and what is so of it in memory. -/
import Derived.Test.YtbfgpjjempagpaaDoorTypes
set_option linter.unusedSimpArgs false
set_option linter.unusedVariables false
namespace Go.Proofs.YtbfgpjjempagpaaDoor
open Go
abbrev MNetPrefix := Int × Int
def clNetPrefix (x : MNetPrefix) : List Value := [.int .i64 x.1, .int .i64 x.2]
def okNetPrefix (_ : World) (x : MNetPrefix) : Prop := (-9223372036854775808 ≤ x.1 ∧ x.1 ≤ 9223372036854775807) ∧ (-9223372036854775808 ≤ x.2 ∧ x.2 ≤ 9223372036854775807)
abbrev MSuint8 := Value × List (Int)
def okSuint8 (w : World) (x : MSuint8) : Prop := Mem w x.1 1 x.2.length (x.2.flatMap (fun y : Int => [.int .u8 y])) ∧ ∀ y ∈ x.2, (0 ≤ y ∧ y ≤ 255)
end Go.Proofs.YtbfgpjjempagpaaDoor

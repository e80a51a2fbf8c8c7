/- The pieces of a packet without one of them; with one of them changed beside it. -/
import Derived.Test.YtodhjpnfokkfeaaFragx
set_option linter.unusedSimpArgs false
set_option linter.unusedVariables false
namespace Go.Proofs.Ytodhjpnfokkfeaa
open Go Go.RowKit
def setB (d : CFragPacket) (k : Nat) (b : Int) : CFragPacket := (d.1, d.2.1, d.2.2.1, d.2.2.2.1, d.2.2.2.2.1, d.2.2.2.2.2.1, d.2.2.2.2.2.2.1, d.2.2.2.2.2.2.2.1, (datP d).set k b)
end Go.Proofs.Ytodhjpnfokkfeaa

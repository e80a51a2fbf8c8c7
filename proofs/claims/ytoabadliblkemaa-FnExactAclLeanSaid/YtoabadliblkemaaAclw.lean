/- Lists of rules: what they mean. -/
import Derived.Test.YtoabadliblkemaaAcla
import Derived.Test.YtoabadliblkemaaSyme
set_option linter.unusedSimpArgs false
set_option linter.unusedVariables false
namespace Go.Proofs.Ytoabadliblkemaa
open Go Go.RowKit
attribute [local irreducible] Calls GoS GoC GoE IsFl IsSc IsRw IsSl IsEl IsSt IsFs sp Mem Rd LenOf szR
def rwSAclRule (x : MSAclRule) : List Row := ⟨x.1, 42, 6, x.2.length, x.2.flatMap clAclRule⟩ :: []
def mkFSAclRule (_ : MAclRule) : Nat := 6
def mkSAclRule (c : List MAclRule) : Nat := (c.map mkFSAclRule).sum
theorem mkleSAclRule (c : List MAclRule) : mkSAclRule c ≤ 64 * c.length := mk_le_flat (fun _ => by simp only [mkFSAclRule]; omega) c
def hdFSAclRule (c : MAclRule) (k : Int) : Prop := (c.1 = decide ((k) % 3 = 0)) ∧ (c.2.1.1 = k + 1) ∧ (c.2.1.2 = k + 2) ∧ (c.2.2.1.1 = k + 3) ∧ (c.2.2.1.2 = k + 4) ∧ (c.2.2.2 = k + 5)
def hdSAclRule (c : List MAclRule) (k : Int) : Prop := Held hdFSAclRule mkFSAclRule c k
theorem rdsSAclRule {w : World} {x : MSAclRule} (h : okSAclRule w x) : Rds w (rwSAclRule x) := Rds.cons h.1 Rds.nil
end Go.Proofs.Ytoabadliblkemaa

/-
  No cell of these rows narrows 'for every input' (looked for: loops, veiled, ifaces, maps, wideKeys, modest, calm, conditions, laid).
  DERIVED. THE GIVEN ROWS OF THIS SEAT. 4 by the template 'for every input the law returns true; each argument reads behind the call as it read before'; 0 by the template 'total and deterministic' (their statements: YtnkbaojmalkchaaTotals.lean).
  GIVEN WITH THE SEED: the statements are not yours to turn. If you find one false, say at which input.
  Laid BY PROGRAM, IN A SANDBOX (cutbox-rows.mjs): the forced cells as the released guide's own fill.sh prints them over the translation 848f93cda32ecccc… (all of the seat's roots in one cut). By AI agents, Wed Nov 11 2026. No macro, syntax, notation, axiom, sorry.
-/
import Derived.Test.YtnkbaojmalkchaaChecked
import GoSem.Claim
import GoSem.ClaimJoined
import GoSem.ClaimMapViews
import Derived.JoinedTies
import Derived.KernelRfl
namespace Go.Proofs.Ytnkbaojmalkchaa
/- THE CELL 'sum', in the pinned program and in every row, IS THE sha256 OF THE DUMP (.gsa) THAT YtnkbaojmalkchaaProg.lean LOADS. Nothing in Lean hashes anything: it is a label: what it is worth is what the hold of that sum in a sandbox is worth. -/
noncomputable def Try.pinned : Pinned := { name := "ytnkbaojmalkchaa", sum := "848f93cda32ecccc2c144524ec9eeae9102e19476534d58e82faedfcbc964254", checked := Try.checked }
namespace Rows
def none {H : Type} : Left H := { results := [], args := [] }

/-- 'laws.FnExactConstants': WHATEVER THE INPUT: true; the input reads as it did. -/
def fnExactConstantsSpec : ChangeSpec := { name := "fnExactConstants", fn := fun _ => fun
  | [] => { results := [.lit (.bool true)], args := [] }
  | _ => none }
def fnExactConstantsRow : OpenClaim := { program := "ytnkbaojmalkchaa", sum := "848f93cda32ecccc2c144524ec9eeae9102e19476534d58e82faedfcbc964254", func := "loop.example/tern/laws.FnExactConstants", spec := "fnExactConstants", apart := false }
def FnExactConstantsSaid : Prop := fnExactConstantsRow.holds Try.pinned (OpenSpec.ofChange fnExactConstantsSpec)

/-- ITS FALSE NEIGHBOUR: 'it returns false'. Refute it at one input. -/
def fnExactConstantsWrong : ChangeSpec := { name := "fnExactConstants", fn := fun _ => fun
  | [] => { results := [.lit (.bool false)], args := [] }
  | _ => none }
def FnExactConstantsWrongFalsely : Prop := fnExactConstantsRow.holds Try.pinned (OpenSpec.ofChange fnExactConstantsWrong)

/-- 'laws.FnExactNatFlowOk': WHATEVER THE INPUT: true; the input reads as it did. -/
def fnExactNatFlowOkSpec : ChangeSpec := { name := "fnExactNatFlowOk", fn := fun _ => fun
  | [d] => { results := [.lit (.bool true)], args := [d] }
  | _ => none }
def fnExactNatFlowOkRow : OpenClaim := { program := "ytnkbaojmalkchaa", sum := "848f93cda32ecccc2c144524ec9eeae9102e19476534d58e82faedfcbc964254", func := "loop.example/tern/laws.FnExactNatFlowOk", spec := "fnExactNatFlowOk", apart := false }
def FnExactNatFlowOkSaid : Prop := fnExactNatFlowOkRow.holds Try.pinned (OpenSpec.ofChange fnExactNatFlowOkSpec)

/-- ITS FALSE NEIGHBOUR: 'it returns false'. Refute it at one input. -/
def fnExactNatFlowOkWrong : ChangeSpec := { name := "fnExactNatFlowOk", fn := fun _ => fun
  | [d] => { results := [.lit (.bool false)], args := [d] }
  | _ => none }
def FnExactNatFlowOkWrongFalsely : Prop := fnExactNatFlowOkRow.holds Try.pinned (OpenSpec.ofChange fnExactNatFlowOkWrong)

/-- 'laws.FnExactNatBack': WHATEVER THE INPUT: true; the input reads as it did. -/
def fnExactNatBackSpec : ChangeSpec := { name := "fnExactNatBack", fn := fun _ => fun
  | [d] => { results := [.lit (.bool true)], args := [d] }
  | _ => none }
def fnExactNatBackRow : OpenClaim := { program := "ytnkbaojmalkchaa", sum := "848f93cda32ecccc2c144524ec9eeae9102e19476534d58e82faedfcbc964254", func := "loop.example/tern/laws.FnExactNatBack", spec := "fnExactNatBack", apart := false }
def FnExactNatBackSaid : Prop := fnExactNatBackRow.holds Try.pinned (OpenSpec.ofChange fnExactNatBackSpec)

/-- ITS FALSE NEIGHBOUR: 'it returns false'. Refute it at one input. -/
def fnExactNatBackWrong : ChangeSpec := { name := "fnExactNatBack", fn := fun _ => fun
  | [d] => { results := [.lit (.bool false)], args := [d] }
  | _ => none }
def FnExactNatBackWrongFalsely : Prop := fnExactNatBackRow.holds Try.pinned (OpenSpec.ofChange fnExactNatBackWrong)

/-- 'laws.FnNatBack': WHATEVER THE INPUT: true; the input reads as it did. -/
def fnNatBackSpec : ChangeSpec := { name := "fnNatBack", fn := fun _ => fun
  | [d] => { results := [.lit (.bool true)], args := [d] }
  | _ => none }
def fnNatBackRow : OpenClaim := { program := "ytnkbaojmalkchaa", sum := "848f93cda32ecccc2c144524ec9eeae9102e19476534d58e82faedfcbc964254", func := "loop.example/tern/laws.FnNatBack", spec := "fnNatBack", apart := false }
def FnNatBackSaid : Prop := fnNatBackRow.holds Try.pinned (OpenSpec.ofChange fnNatBackSpec)

/-- ITS FALSE NEIGHBOUR: 'it returns false'. Refute it at one input. -/
def fnNatBackWrong : ChangeSpec := { name := "fnNatBack", fn := fun _ => fun
  | [d] => { results := [.lit (.bool false)], args := [d] }
  | _ => none }
def FnNatBackWrongFalsely : Prop := fnNatBackRow.holds Try.pinned (OpenSpec.ofChange fnNatBackWrong)

/- THE SECOND FORM. 'bulk': how many values and letters a reading holds, each counted each time it is reached (what is shared counts as often as it is met; a slice's spare places count too). A statement '..UptoSaid' is the law's where the arguments, and the package variables that the reading takes, are together of bulk at most 1048576: NARROWER than '..Said'. Prove '..Said' where nothing that the law and all that it calls make is longer than what came in: it says more and counts as full. Else prove '..UptoSaid'. A law counts once. -/
mutual
def uptoBulk {H : Type} : DataW H → Nat
  | .lit (.string bytes) => bytes.length + 1
  | .lit _ => 1
  | .nil => 1
  | .ptr d => uptoBulk d + 1
  | .slice elems spare => uptoBulkAll elems + uptoBulkAll spare + 1
  | .agg parts => uptoBulkAll parts + 1
  | .iface _ d => uptoBulk d + 1
  | .map entries => uptoBulkEntries entries + 1
  | .held _ => 1
def uptoBulkAll {H : Type} : List (DataW H) → Nat
  | [] => 0
  | d :: r => uptoBulk d + uptoBulkAll r
def uptoBulkEntries {H : Type} : List (Lit × DataW H) → Nat
  | [] => 0
  | x :: r => uptoBulkEntry x + uptoBulkEntries r
def uptoBulkEntry {H : Type} : Lit × DataW H → Nat
  | (.string bytes, d) => bytes.length + uptoBulk d + 1
  | (_, d) => uptoBulk d + 1
 end
def uptoSmall : (H : Type) → List (DataW H) → Bool := fun _ ds => decide (uptoBulkAll ds ≤ 1048576)
def OpenSpec.upto (s : _root_.Go.ChangeSpec) : _root_.Go.OpenSpec := { _root_.Go.OpenSpec.ofChange s with cond := some uptoSmall }

/-- 'laws.FnExactConstants', WHERE WHAT IT READS IS OF BULK AT MOST 1048576: true; the input reads as it did. -/
def fnExactConstantsUptoRow : OpenClaim := { program := "ytnkbaojmalkchaa", sum := "848f93cda32ecccc2c144524ec9eeae9102e19476534d58e82faedfcbc964254", func := "loop.example/tern/laws.FnExactConstants", spec := "fnExactConstants", apart := false, narrowed := true }
def FnExactConstantsUptoSaid : Prop := fnExactConstantsUptoRow.holds Try.pinned (OpenSpec.upto fnExactConstantsSpec)

/-- 'laws.FnExactNatFlowOk', WHERE WHAT IT READS IS OF BULK AT MOST 1048576: true; the input reads as it did. -/
def fnExactNatFlowOkUptoRow : OpenClaim := { program := "ytnkbaojmalkchaa", sum := "848f93cda32ecccc2c144524ec9eeae9102e19476534d58e82faedfcbc964254", func := "loop.example/tern/laws.FnExactNatFlowOk", spec := "fnExactNatFlowOk", apart := false, narrowed := true }
def FnExactNatFlowOkUptoSaid : Prop := fnExactNatFlowOkUptoRow.holds Try.pinned (OpenSpec.upto fnExactNatFlowOkSpec)

/-- 'laws.FnExactNatBack', WHERE WHAT IT READS IS OF BULK AT MOST 1048576: true; the input reads as it did. -/
def fnExactNatBackUptoRow : OpenClaim := { program := "ytnkbaojmalkchaa", sum := "848f93cda32ecccc2c144524ec9eeae9102e19476534d58e82faedfcbc964254", func := "loop.example/tern/laws.FnExactNatBack", spec := "fnExactNatBack", apart := false, narrowed := true }
def FnExactNatBackUptoSaid : Prop := fnExactNatBackUptoRow.holds Try.pinned (OpenSpec.upto fnExactNatBackSpec)

/-- 'laws.FnNatBack', WHERE WHAT IT READS IS OF BULK AT MOST 1048576: true; the input reads as it did. -/
def fnNatBackUptoRow : OpenClaim := { program := "ytnkbaojmalkchaa", sum := "848f93cda32ecccc2c144524ec9eeae9102e19476534d58e82faedfcbc964254", func := "loop.example/tern/laws.FnNatBack", spec := "fnNatBack", apart := false, narrowed := true }
def FnNatBackUptoSaid : Prop := fnNatBackUptoRow.holds Try.pinned (OpenSpec.upto fnNatBackSpec)

end Rows
end Go.Proofs.Ytnkbaojmalkchaa

/-
  No cell of these rows narrows 'for every input' (looked for: loops, veiled, ifaces, maps, wideKeys, modest, calm, conditions, laid).
  DERIVED. THE GIVEN ROWS OF THIS SEAT. 6 by the template 'for every input the law returns true; each argument reads behind the call as it read before'; 0 by the template 'total and deterministic' (their statements: YtmfjlgfhhebboaaTotals.lean).
  GIVEN WITH THE SEED: the statements are not yours to turn. If you find one false, say at which input.
  Laid BY PROGRAM, IN A SANDBOX (cutbox-rows.mjs): the forced cells as the released guide's own fill.sh prints them over the translation 1c3bf5ba987d00fa… (all of the seat's roots in one cut). By AI agents, Wed Nov 11 2026. No macro, syntax, notation, axiom, sorry.
-/
import Derived.Test.YtmfjlgfhhebboaaChecked
import GoSem.Claim
import GoSem.ClaimJoined
import GoSem.ClaimMapViews
import Derived.JoinedTies
import Derived.KernelRfl
namespace Go.Proofs.Ytmfjlgfhhebboaa
/- THE CELL 'sum', in the pinned program and in every row, IS THE sha256 OF THE DUMP (.gsa) THAT YtmfjlgfhhebboaaProg.lean LOADS. Nothing in Lean hashes anything: it is a label: what it is worth is what the hold of that sum in a sandbox is worth. -/
noncomputable def Try.pinned : Pinned := { name := "ytmfjlgfhhebboaa", sum := "1c3bf5ba987d00fa0fa16e809e1c626b63224f230f35575c762baaf4a9b2c55c", checked := Try.checked }
namespace Rows
def none {H : Type} : Left H := { results := [], args := [] }

/-- 'laws.FnExactConstants': WHATEVER THE INPUT: true; the input reads as it did. -/
def fnExactConstantsSpec : ChangeSpec := { name := "fnExactConstants", fn := fun _ => fun
  | [] => { results := [.lit (.bool true)], args := [] }
  | _ => none }
def fnExactConstantsRow : OpenClaim := { program := "ytmfjlgfhhebboaa", sum := "1c3bf5ba987d00fa0fa16e809e1c626b63224f230f35575c762baaf4a9b2c55c", func := "loop.example/tern/laws.FnExactConstants", spec := "fnExactConstants", apart := false }
def FnExactConstantsSaid : Prop := fnExactConstantsRow.holds Try.pinned (OpenSpec.ofChange fnExactConstantsSpec)

/-- ITS FALSE NEIGHBOUR: 'it returns false'. Refute it at one input. -/
def fnExactConstantsWrong : ChangeSpec := { name := "fnExactConstants", fn := fun _ => fun
  | [] => { results := [.lit (.bool false)], args := [] }
  | _ => none }
def FnExactConstantsWrongFalsely : Prop := fnExactConstantsRow.holds Try.pinned (OpenSpec.ofChange fnExactConstantsWrong)

/-- 'laws.FnExactNatFlowOk': WHATEVER THE INPUT: true; the input reads as it did. -/
def fnExactNatFlowOkSpec : ChangeSpec := { name := "fnExactNatFlowOk", fn := fun _ => fun
  | [d] => { results := [.lit (.bool true)], args := [d] }
  | _ => none }
def fnExactNatFlowOkRow : OpenClaim := { program := "ytmfjlgfhhebboaa", sum := "1c3bf5ba987d00fa0fa16e809e1c626b63224f230f35575c762baaf4a9b2c55c", func := "loop.example/tern/laws.FnExactNatFlowOk", spec := "fnExactNatFlowOk", apart := false }
def FnExactNatFlowOkSaid : Prop := fnExactNatFlowOkRow.holds Try.pinned (OpenSpec.ofChange fnExactNatFlowOkSpec)

/-- ITS FALSE NEIGHBOUR: 'it returns false'. Refute it at one input. -/
def fnExactNatFlowOkWrong : ChangeSpec := { name := "fnExactNatFlowOk", fn := fun _ => fun
  | [d] => { results := [.lit (.bool false)], args := [d] }
  | _ => none }
def FnExactNatFlowOkWrongFalsely : Prop := fnExactNatFlowOkRow.holds Try.pinned (OpenSpec.ofChange fnExactNatFlowOkWrong)

/-- 'laws.FnExactNetOk': WHATEVER THE INPUT: true; the input reads as it did. -/
def fnExactNetOkSpec : ChangeSpec := { name := "fnExactNetOk", fn := fun _ => fun
  | [d] => { results := [.lit (.bool true)], args := [d] }
  | _ => none }
def fnExactNetOkRow : OpenClaim := { program := "ytmfjlgfhhebboaa", sum := "1c3bf5ba987d00fa0fa16e809e1c626b63224f230f35575c762baaf4a9b2c55c", func := "loop.example/tern/laws.FnExactNetOk", spec := "fnExactNetOk", apart := false }
def FnExactNetOkSaid : Prop := fnExactNetOkRow.holds Try.pinned (OpenSpec.ofChange fnExactNetOkSpec)

/-- ITS FALSE NEIGHBOUR: 'it returns false'. Refute it at one input. -/
def fnExactNetOkWrong : ChangeSpec := { name := "fnExactNetOk", fn := fun _ => fun
  | [d] => { results := [.lit (.bool false)], args := [d] }
  | _ => none }
def FnExactNetOkWrongFalsely : Prop := fnExactNetOkRow.holds Try.pinned (OpenSpec.ofChange fnExactNetOkWrong)

/-- 'laws.FnExactNatBack': WHATEVER THE INPUT: true; the input reads as it did. -/
def fnExactNatBackSpec : ChangeSpec := { name := "fnExactNatBack", fn := fun _ => fun
  | [d] => { results := [.lit (.bool true)], args := [d] }
  | _ => none }
def fnExactNatBackRow : OpenClaim := { program := "ytmfjlgfhhebboaa", sum := "1c3bf5ba987d00fa0fa16e809e1c626b63224f230f35575c762baaf4a9b2c55c", func := "loop.example/tern/laws.FnExactNatBack", spec := "fnExactNatBack", apart := false }
def FnExactNatBackSaid : Prop := fnExactNatBackRow.holds Try.pinned (OpenSpec.ofChange fnExactNatBackSpec)

/-- ITS FALSE NEIGHBOUR: 'it returns false'. Refute it at one input. -/
def fnExactNatBackWrong : ChangeSpec := { name := "fnExactNatBack", fn := fun _ => fun
  | [d] => { results := [.lit (.bool false)], args := [d] }
  | _ => none }
def FnExactNatBackWrongFalsely : Prop := fnExactNatBackRow.holds Try.pinned (OpenSpec.ofChange fnExactNatBackWrong)

/-- 'laws.FnExactNetHas': WHATEVER THE INPUT: true; the input reads as it did. -/
def fnExactNetHasSpec : ChangeSpec := { name := "fnExactNetHas", fn := fun _ => fun
  | [d1, d2] => { results := [.lit (.bool true)], args := [d1, d2] }
  | _ => none }
def fnExactNetHasRow : OpenClaim := { program := "ytmfjlgfhhebboaa", sum := "1c3bf5ba987d00fa0fa16e809e1c626b63224f230f35575c762baaf4a9b2c55c", func := "loop.example/tern/laws.FnExactNetHas", spec := "fnExactNetHas", apart := false }
def FnExactNetHasSaid : Prop := fnExactNetHasRow.holds Try.pinned (OpenSpec.ofChange fnExactNetHasSpec)

/-- ITS FALSE NEIGHBOUR: 'it returns false'. Refute it at one input. -/
def fnExactNetHasWrong : ChangeSpec := { name := "fnExactNetHas", fn := fun _ => fun
  | [d1, d2] => { results := [.lit (.bool false)], args := [d1, d2] }
  | _ => none }
def FnExactNetHasWrongFalsely : Prop := fnExactNetHasRow.holds Try.pinned (OpenSpec.ofChange fnExactNetHasWrong)

/-- 'laws.FnExactNetIn': WHATEVER THE INPUT: true; the input reads as it did. -/
def fnExactNetInSpec : ChangeSpec := { name := "fnExactNetIn", fn := fun _ => fun
  | [d1, d2] => { results := [.lit (.bool true)], args := [d1, d2] }
  | _ => none }
def fnExactNetInRow : OpenClaim := { program := "ytmfjlgfhhebboaa", sum := "1c3bf5ba987d00fa0fa16e809e1c626b63224f230f35575c762baaf4a9b2c55c", func := "loop.example/tern/laws.FnExactNetIn", spec := "fnExactNetIn", apart := false }
def FnExactNetInSaid : Prop := fnExactNetInRow.holds Try.pinned (OpenSpec.ofChange fnExactNetInSpec)

/-- ITS FALSE NEIGHBOUR: 'it returns false'. Refute it at one input. -/
def fnExactNetInWrong : ChangeSpec := { name := "fnExactNetIn", fn := fun _ => fun
  | [d1, d2] => { results := [.lit (.bool false)], args := [d1, d2] }
  | _ => none }
def FnExactNetInWrongFalsely : Prop := fnExactNetInRow.holds Try.pinned (OpenSpec.ofChange fnExactNetInWrong)

/- THE SECOND FORM. 'bulk': how many values and letters a reading holds, each counted each time it is reached (what is shared counts as often as it is met; a slice's spare places count too). A statement '..UptoSaid' is the law's where the arguments, and the package variables that the reading takes, are together of bulk at most 1048576: NARROWER than '..Said'. Prove '..Said' where nothing that the law and all that it calls make is longer than what came in: it says more and counts as full. Else prove '..UptoSaid'. A law counts once. -/
mutual
def uptoBulk {H : Type} : DataW H → Nat
  | .lit (.string bytes) => bytes.length + 1
  | .lit _ => 1
  | .nil => 1
  | .ptr d => uptoBulk d + 1
  | .slice elems spare => uptoBulkAll elems + uptoBulkAll spare + 1
  | .agg parts => uptoBulkAll parts + 1
  | .iface _ d => uptoBulk d + 1
  | .map entries => uptoBulkEntries entries + 1
  | .held _ => 1
def uptoBulkAll {H : Type} : List (DataW H) → Nat
  | [] => 0
  | d :: r => uptoBulk d + uptoBulkAll r
def uptoBulkEntries {H : Type} : List (Lit × DataW H) → Nat
  | [] => 0
  | x :: r => uptoBulkEntry x + uptoBulkEntries r
def uptoBulkEntry {H : Type} : Lit × DataW H → Nat
  | (.string bytes, d) => bytes.length + uptoBulk d + 1
  | (_, d) => uptoBulk d + 1
 end
def uptoSmall : (H : Type) → List (DataW H) → Bool := fun _ ds => decide (uptoBulkAll ds ≤ 1048576)
def OpenSpec.upto (s : _root_.Go.ChangeSpec) : _root_.Go.OpenSpec := { _root_.Go.OpenSpec.ofChange s with cond := some uptoSmall }

/-- 'laws.FnExactConstants', WHERE WHAT IT READS IS OF BULK AT MOST 1048576: true; the input reads as it did. -/
def fnExactConstantsUptoRow : OpenClaim := { program := "ytmfjlgfhhebboaa", sum := "1c3bf5ba987d00fa0fa16e809e1c626b63224f230f35575c762baaf4a9b2c55c", func := "loop.example/tern/laws.FnExactConstants", spec := "fnExactConstants", apart := false, narrowed := true }
def FnExactConstantsUptoSaid : Prop := fnExactConstantsUptoRow.holds Try.pinned (OpenSpec.upto fnExactConstantsSpec)

/-- 'laws.FnExactNatFlowOk', WHERE WHAT IT READS IS OF BULK AT MOST 1048576: true; the input reads as it did. -/
def fnExactNatFlowOkUptoRow : OpenClaim := { program := "ytmfjlgfhhebboaa", sum := "1c3bf5ba987d00fa0fa16e809e1c626b63224f230f35575c762baaf4a9b2c55c", func := "loop.example/tern/laws.FnExactNatFlowOk", spec := "fnExactNatFlowOk", apart := false, narrowed := true }
def FnExactNatFlowOkUptoSaid : Prop := fnExactNatFlowOkUptoRow.holds Try.pinned (OpenSpec.upto fnExactNatFlowOkSpec)

/-- 'laws.FnExactNetOk', WHERE WHAT IT READS IS OF BULK AT MOST 1048576: true; the input reads as it did. -/
def fnExactNetOkUptoRow : OpenClaim := { program := "ytmfjlgfhhebboaa", sum := "1c3bf5ba987d00fa0fa16e809e1c626b63224f230f35575c762baaf4a9b2c55c", func := "loop.example/tern/laws.FnExactNetOk", spec := "fnExactNetOk", apart := false, narrowed := true }
def FnExactNetOkUptoSaid : Prop := fnExactNetOkUptoRow.holds Try.pinned (OpenSpec.upto fnExactNetOkSpec)

/-- 'laws.FnExactNatBack', WHERE WHAT IT READS IS OF BULK AT MOST 1048576: true; the input reads as it did. -/
def fnExactNatBackUptoRow : OpenClaim := { program := "ytmfjlgfhhebboaa", sum := "1c3bf5ba987d00fa0fa16e809e1c626b63224f230f35575c762baaf4a9b2c55c", func := "loop.example/tern/laws.FnExactNatBack", spec := "fnExactNatBack", apart := false, narrowed := true }
def FnExactNatBackUptoSaid : Prop := fnExactNatBackUptoRow.holds Try.pinned (OpenSpec.upto fnExactNatBackSpec)

/-- 'laws.FnExactNetHas', WHERE WHAT IT READS IS OF BULK AT MOST 1048576: true; the input reads as it did. -/
def fnExactNetHasUptoRow : OpenClaim := { program := "ytmfjlgfhhebboaa", sum := "1c3bf5ba987d00fa0fa16e809e1c626b63224f230f35575c762baaf4a9b2c55c", func := "loop.example/tern/laws.FnExactNetHas", spec := "fnExactNetHas", apart := false, narrowed := true }
def FnExactNetHasUptoSaid : Prop := fnExactNetHasUptoRow.holds Try.pinned (OpenSpec.upto fnExactNetHasSpec)

/-- 'laws.FnExactNetIn', WHERE WHAT IT READS IS OF BULK AT MOST 1048576: true; the input reads as it did. -/
def fnExactNetInUptoRow : OpenClaim := { program := "ytmfjlgfhhebboaa", sum := "1c3bf5ba987d00fa0fa16e809e1c626b63224f230f35575c762baaf4a9b2c55c", func := "loop.example/tern/laws.FnExactNetIn", spec := "fnExactNetIn", apart := false, narrowed := true }
def FnExactNetInUptoSaid : Prop := fnExactNetInUptoRow.holds Try.pinned (OpenSpec.upto fnExactNetInSpec)

end Rows
end Go.Proofs.Ytmfjlgfhhebboaa

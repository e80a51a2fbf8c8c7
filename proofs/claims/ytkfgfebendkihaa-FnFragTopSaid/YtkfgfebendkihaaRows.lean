/-
  No cell of these rows narrows 'for every input' (looked for: loops, veiled, ifaces, maps, wideKeys, modest, calm, conditions, laid).
  DERIVED. THE GIVEN ROWS OF THIS SEAT. 12 by the template 'for every input the law returns true; each argument reads behind the call as it read before'; 0 by the template 'total and deterministic' (their statements: YtkfgfebendkihaaTotals.lean).
  GIVEN WITH THE SEED: the statements are not yours to turn. If you find one false, say at which input.
  Laid BY PROGRAM, IN A SANDBOX (cutbox-rows.mjs): the forced cells as the released guide's own fill.sh prints them over the translation 29a2ba66c7848e8d… (all of the seat's roots in one cut). By AI agents, Wed Nov 11 2026. No macro, syntax, notation, axiom, sorry.
-/
import Derived.Test.YtkfgfebendkihaaChecked
import GoSem.Claim
import GoSem.ClaimJoined
import GoSem.ClaimMapViews
import Derived.JoinedTies
import Derived.KernelRfl
namespace Go.Proofs.Ytkfgfebendkihaa
/- THE CELL 'sum', in the pinned program and in every row, IS THE sha256 OF THE DUMP (.gsa) THAT YtkfgfebendkihaaProg.lean LOADS. Nothing in Lean hashes anything: it is a label: what it is worth is what the hold of that sum in a sandbox is worth. -/
noncomputable def Try.pinned : Pinned := { name := "ytkfgfebendkihaa", sum := "29a2ba66c7848e8d3502a0ad505996943f24af3d6a5faaceac3b9633146e9dda", checked := Try.checked }
namespace Rows
def none {H : Type} : Left H := { results := [], args := [] }

/-- 'laws.FnExactFragOk': WHATEVER THE INPUT: true; the input reads as it did. -/
def fnExactFragOkSpec : ChangeSpec := { name := "fnExactFragOk", fn := fun _ => fun
  | [d] => { results := [.lit (.bool true)], args := [d] }
  | _ => none }
def fnExactFragOkRow : OpenClaim := { program := "ytkfgfebendkihaa", sum := "29a2ba66c7848e8d3502a0ad505996943f24af3d6a5faaceac3b9633146e9dda", func := "loop.example/tern/laws.FnExactFragOk", spec := "fnExactFragOk", apart := false }
def FnExactFragOkSaid : Prop := fnExactFragOkRow.holds Try.pinned (OpenSpec.ofChange fnExactFragOkSpec)

/-- ITS FALSE NEIGHBOUR: 'it returns false'. Refute it at one input. -/
def fnExactFragOkWrong : ChangeSpec := { name := "fnExactFragOk", fn := fun _ => fun
  | [d] => { results := [.lit (.bool false)], args := [d] }
  | _ => none }
def FnExactFragOkWrongFalsely : Prop := fnExactFragOkRow.holds Try.pinned (OpenSpec.ofChange fnExactFragOkWrong)

/-- 'laws.FnExactFragAlike': WHATEVER THE INPUT: true; the input reads as it did. -/
def fnExactFragAlikeSpec : ChangeSpec := { name := "fnExactFragAlike", fn := fun _ => fun
  | [d1, d2] => { results := [.lit (.bool true)], args := [d1, d2] }
  | _ => none }
def fnExactFragAlikeRow : OpenClaim := { program := "ytkfgfebendkihaa", sum := "29a2ba66c7848e8d3502a0ad505996943f24af3d6a5faaceac3b9633146e9dda", func := "loop.example/tern/laws.FnExactFragAlike", spec := "fnExactFragAlike", apart := false }
def FnExactFragAlikeSaid : Prop := fnExactFragAlikeRow.holds Try.pinned (OpenSpec.ofChange fnExactFragAlikeSpec)

/-- ITS FALSE NEIGHBOUR: 'it returns false'. Refute it at one input. -/
def fnExactFragAlikeWrong : ChangeSpec := { name := "fnExactFragAlike", fn := fun _ => fun
  | [d1, d2] => { results := [.lit (.bool false)], args := [d1, d2] }
  | _ => none }
def FnExactFragAlikeWrongFalsely : Prop := fnExactFragAlikeRow.holds Try.pinned (OpenSpec.ofChange fnExactFragAlikeWrong)

/-- 'laws.FnExactFragSize': WHATEVER THE INPUT: true; the input reads as it did. -/
def fnExactFragSizeSpec : ChangeSpec := { name := "fnExactFragSize", fn := fun _ => fun
  | [d] => { results := [.lit (.bool true)], args := [d] }
  | _ => none }
def fnExactFragSizeRow : OpenClaim := { program := "ytkfgfebendkihaa", sum := "29a2ba66c7848e8d3502a0ad505996943f24af3d6a5faaceac3b9633146e9dda", func := "loop.example/tern/laws.FnExactFragSize", spec := "fnExactFragSize", apart := false }
def FnExactFragSizeSaid : Prop := fnExactFragSizeRow.holds Try.pinned (OpenSpec.ofChange fnExactFragSizeSpec)

/-- ITS FALSE NEIGHBOUR: 'it returns false'. Refute it at one input. -/
def fnExactFragSizeWrong : ChangeSpec := { name := "fnExactFragSize", fn := fun _ => fun
  | [d] => { results := [.lit (.bool false)], args := [d] }
  | _ => none }
def FnExactFragSizeWrongFalsely : Prop := fnExactFragSizeRow.holds Try.pinned (OpenSpec.ofChange fnExactFragSizeWrong)

/-- 'laws.FnExactFragHop': WHATEVER THE INPUT: true; the input reads as it did. -/
def fnExactFragHopSpec : ChangeSpec := { name := "fnExactFragHop", fn := fun _ => fun
  | [d] => { results := [.lit (.bool true)], args := [d] }
  | _ => none }
def fnExactFragHopRow : OpenClaim := { program := "ytkfgfebendkihaa", sum := "29a2ba66c7848e8d3502a0ad505996943f24af3d6a5faaceac3b9633146e9dda", func := "loop.example/tern/laws.FnExactFragHop", spec := "fnExactFragHop", apart := false }
def FnExactFragHopSaid : Prop := fnExactFragHopRow.holds Try.pinned (OpenSpec.ofChange fnExactFragHopSpec)

/-- ITS FALSE NEIGHBOUR: 'it returns false'. Refute it at one input. -/
def fnExactFragHopWrong : ChangeSpec := { name := "fnExactFragHop", fn := fun _ => fun
  | [d] => { results := [.lit (.bool false)], args := [d] }
  | _ => none }
def FnExactFragHopWrongFalsely : Prop := fnExactFragHopRow.holds Try.pinned (OpenSpec.ofChange fnExactFragHopWrong)

/-- 'laws.FnFragHop': WHATEVER THE INPUT: true; the input reads as it did. -/
def fnFragHopSpec : ChangeSpec := { name := "fnFragHop", fn := fun _ => fun
  | [d] => { results := [.lit (.bool true)], args := [d] }
  | _ => none }
def fnFragHopRow : OpenClaim := { program := "ytkfgfebendkihaa", sum := "29a2ba66c7848e8d3502a0ad505996943f24af3d6a5faaceac3b9633146e9dda", func := "loop.example/tern/laws.FnFragHop", spec := "fnFragHop", apart := false }
def FnFragHopSaid : Prop := fnFragHopRow.holds Try.pinned (OpenSpec.ofChange fnFragHopSpec)

/-- ITS FALSE NEIGHBOUR: 'it returns false'. Refute it at one input. -/
def fnFragHopWrong : ChangeSpec := { name := "fnFragHop", fn := fun _ => fun
  | [d] => { results := [.lit (.bool false)], args := [d] }
  | _ => none }
def FnFragHopWrongFalsely : Prop := fnFragHopRow.holds Try.pinned (OpenSpec.ofChange fnFragHopWrong)

/-- 'laws.FnExactFragCut': WHATEVER THE INPUT: true; the input reads as it did. -/
def fnExactFragCutSpec : ChangeSpec := { name := "fnExactFragCut", fn := fun _ => fun
  | [d1, d2] => { results := [.lit (.bool true)], args := [d1, d2] }
  | _ => none }
def fnExactFragCutRow : OpenClaim := { program := "ytkfgfebendkihaa", sum := "29a2ba66c7848e8d3502a0ad505996943f24af3d6a5faaceac3b9633146e9dda", func := "loop.example/tern/laws.FnExactFragCut", spec := "fnExactFragCut", apart := false }
def FnExactFragCutSaid : Prop := fnExactFragCutRow.holds Try.pinned (OpenSpec.ofChange fnExactFragCutSpec)

/-- ITS FALSE NEIGHBOUR: 'it returns false'. Refute it at one input. -/
def fnExactFragCutWrong : ChangeSpec := { name := "fnExactFragCut", fn := fun _ => fun
  | [d1, d2] => { results := [.lit (.bool false)], args := [d1, d2] }
  | _ => none }
def FnExactFragCutWrongFalsely : Prop := fnExactFragCutRow.holds Try.pinned (OpenSpec.ofChange fnExactFragCutWrong)

/-- 'laws.FnFragCut': WHATEVER THE INPUT: true; the input reads as it did. -/
def fnFragCutSpec : ChangeSpec := { name := "fnFragCut", fn := fun _ => fun
  | [d] => { results := [.lit (.bool true)], args := [d] }
  | _ => none }
def fnFragCutRow : OpenClaim := { program := "ytkfgfebendkihaa", sum := "29a2ba66c7848e8d3502a0ad505996943f24af3d6a5faaceac3b9633146e9dda", func := "loop.example/tern/laws.FnFragCut", spec := "fnFragCut", apart := false }
def FnFragCutSaid : Prop := fnFragCutRow.holds Try.pinned (OpenSpec.ofChange fnFragCutSpec)

/-- ITS FALSE NEIGHBOUR: 'it returns false'. Refute it at one input. -/
def fnFragCutWrong : ChangeSpec := { name := "fnFragCut", fn := fun _ => fun
  | [d] => { results := [.lit (.bool false)], args := [d] }
  | _ => none }
def FnFragCutWrongFalsely : Prop := fnFragCutRow.holds Try.pinned (OpenSpec.ofChange fnFragCutWrong)

/-- 'laws.FnFragLacks': WHATEVER THE INPUT: true; the input reads as it did. -/
def fnFragLacksSpec : ChangeSpec := { name := "fnFragLacks", fn := fun _ => fun
  | [d1, d2] => { results := [.lit (.bool true)], args := [d1, d2] }
  | _ => none }
def fnFragLacksRow : OpenClaim := { program := "ytkfgfebendkihaa", sum := "29a2ba66c7848e8d3502a0ad505996943f24af3d6a5faaceac3b9633146e9dda", func := "loop.example/tern/laws.FnFragLacks", spec := "fnFragLacks", apart := false }
def FnFragLacksSaid : Prop := fnFragLacksRow.holds Try.pinned (OpenSpec.ofChange fnFragLacksSpec)

/-- ITS FALSE NEIGHBOUR: 'it returns false'. Refute it at one input. -/
def fnFragLacksWrong : ChangeSpec := { name := "fnFragLacks", fn := fun _ => fun
  | [d1, d2] => { results := [.lit (.bool false)], args := [d1, d2] }
  | _ => none }
def FnFragLacksWrongFalsely : Prop := fnFragLacksRow.holds Try.pinned (OpenSpec.ofChange fnFragLacksWrong)

/-- 'laws.FnFragTop': WHATEVER THE INPUT: true; the input reads as it did. -/
def fnFragTopSpec : ChangeSpec := { name := "fnFragTop", fn := fun _ => fun
  | [d] => { results := [.lit (.bool true)], args := [d] }
  | _ => none }
def fnFragTopRow : OpenClaim := { program := "ytkfgfebendkihaa", sum := "29a2ba66c7848e8d3502a0ad505996943f24af3d6a5faaceac3b9633146e9dda", func := "loop.example/tern/laws.FnFragTop", spec := "fnFragTop", apart := false }
def FnFragTopSaid : Prop := fnFragTopRow.holds Try.pinned (OpenSpec.ofChange fnFragTopSpec)

/-- ITS FALSE NEIGHBOUR: 'it returns false'. Refute it at one input. -/
def fnFragTopWrong : ChangeSpec := { name := "fnFragTop", fn := fun _ => fun
  | [d] => { results := [.lit (.bool false)], args := [d] }
  | _ => none }
def FnFragTopWrongFalsely : Prop := fnFragTopRow.holds Try.pinned (OpenSpec.ofChange fnFragTopWrong)

/-- 'laws.FnExactFragJoin': WHATEVER THE INPUT: true; the input reads as it did. -/
def fnExactFragJoinSpec : ChangeSpec := { name := "fnExactFragJoin", fn := fun _ => fun
  | [d] => { results := [.lit (.bool true)], args := [d] }
  | _ => none }
def fnExactFragJoinRow : OpenClaim := { program := "ytkfgfebendkihaa", sum := "29a2ba66c7848e8d3502a0ad505996943f24af3d6a5faaceac3b9633146e9dda", func := "loop.example/tern/laws.FnExactFragJoin", spec := "fnExactFragJoin", apart := false }
def FnExactFragJoinSaid : Prop := fnExactFragJoinRow.holds Try.pinned (OpenSpec.ofChange fnExactFragJoinSpec)

/-- ITS FALSE NEIGHBOUR: 'it returns false'. Refute it at one input. -/
def fnExactFragJoinWrong : ChangeSpec := { name := "fnExactFragJoin", fn := fun _ => fun
  | [d] => { results := [.lit (.bool false)], args := [d] }
  | _ => none }
def FnExactFragJoinWrongFalsely : Prop := fnExactFragJoinRow.holds Try.pinned (OpenSpec.ofChange fnExactFragJoinWrong)

/-- 'laws.FnFragJoin': WHATEVER THE INPUT: true; the input reads as it did. -/
def fnFragJoinSpec : ChangeSpec := { name := "fnFragJoin", fn := fun _ => fun
  | [d1, d2] => { results := [.lit (.bool true)], args := [d1, d2] }
  | _ => none }
def fnFragJoinRow : OpenClaim := { program := "ytkfgfebendkihaa", sum := "29a2ba66c7848e8d3502a0ad505996943f24af3d6a5faaceac3b9633146e9dda", func := "loop.example/tern/laws.FnFragJoin", spec := "fnFragJoin", apart := false }
def FnFragJoinSaid : Prop := fnFragJoinRow.holds Try.pinned (OpenSpec.ofChange fnFragJoinSpec)

/-- ITS FALSE NEIGHBOUR: 'it returns false'. Refute it at one input. -/
def fnFragJoinWrong : ChangeSpec := { name := "fnFragJoin", fn := fun _ => fun
  | [d1, d2] => { results := [.lit (.bool false)], args := [d1, d2] }
  | _ => none }
def FnFragJoinWrongFalsely : Prop := fnFragJoinRow.holds Try.pinned (OpenSpec.ofChange fnFragJoinWrong)

/-- 'laws.FnExactFragBenchOk': WHATEVER THE INPUT: true; the input reads as it did. -/
def fnExactFragBenchOkSpec : ChangeSpec := { name := "fnExactFragBenchOk", fn := fun _ => fun
  | [d] => { results := [.lit (.bool true)], args := [d] }
  | _ => none }
def fnExactFragBenchOkRow : OpenClaim := { program := "ytkfgfebendkihaa", sum := "29a2ba66c7848e8d3502a0ad505996943f24af3d6a5faaceac3b9633146e9dda", func := "loop.example/tern/laws.FnExactFragBenchOk", spec := "fnExactFragBenchOk", apart := false }
def FnExactFragBenchOkSaid : Prop := fnExactFragBenchOkRow.holds Try.pinned (OpenSpec.ofChange fnExactFragBenchOkSpec)

/-- ITS FALSE NEIGHBOUR: 'it returns false'. Refute it at one input. -/
def fnExactFragBenchOkWrong : ChangeSpec := { name := "fnExactFragBenchOk", fn := fun _ => fun
  | [d] => { results := [.lit (.bool false)], args := [d] }
  | _ => none }
def FnExactFragBenchOkWrongFalsely : Prop := fnExactFragBenchOkRow.holds Try.pinned (OpenSpec.ofChange fnExactFragBenchOkWrong)

/- THE SECOND FORM. 'bulk': how many values and letters a reading holds, each counted each time it is reached (what is shared counts as often as it is met; a slice's spare places count too). A statement '..UptoSaid' is the law's where the arguments, and the package variables that the reading takes, are together of bulk at most 1048576: NARROWER than '..Said'. Prove '..Said' where nothing that the law and all that it calls make is longer than what came in: it says more and counts as full. Else prove '..UptoSaid'. A law counts once. -/
mutual
def uptoBulk {H : Type} : DataW H → Nat
  | .lit (.string bytes) => bytes.length + 1
  | .lit _ => 1
  | .nil => 1
  | .ptr d => uptoBulk d + 1
  | .slice elems spare => uptoBulkAll elems + uptoBulkAll spare + 1
  | .agg parts => uptoBulkAll parts + 1
  | .iface _ d => uptoBulk d + 1
  | .map entries => uptoBulkEntries entries + 1
  | .held _ => 1
def uptoBulkAll {H : Type} : List (DataW H) → Nat
  | [] => 0
  | d :: r => uptoBulk d + uptoBulkAll r
def uptoBulkEntries {H : Type} : List (Lit × DataW H) → Nat
  | [] => 0
  | x :: r => uptoBulkEntry x + uptoBulkEntries r
def uptoBulkEntry {H : Type} : Lit × DataW H → Nat
  | (.string bytes, d) => bytes.length + uptoBulk d + 1
  | (_, d) => uptoBulk d + 1
 end
def uptoSmall : (H : Type) → List (DataW H) → Bool := fun _ ds => decide (uptoBulkAll ds ≤ 1048576)
def OpenSpec.upto (s : _root_.Go.ChangeSpec) : _root_.Go.OpenSpec := { _root_.Go.OpenSpec.ofChange s with cond := some uptoSmall }

/-- 'laws.FnExactFragOk', WHERE WHAT IT READS IS OF BULK AT MOST 1048576: true; the input reads as it did. -/
def fnExactFragOkUptoRow : OpenClaim := { program := "ytkfgfebendkihaa", sum := "29a2ba66c7848e8d3502a0ad505996943f24af3d6a5faaceac3b9633146e9dda", func := "loop.example/tern/laws.FnExactFragOk", spec := "fnExactFragOk", apart := false, narrowed := true }
def FnExactFragOkUptoSaid : Prop := fnExactFragOkUptoRow.holds Try.pinned (OpenSpec.upto fnExactFragOkSpec)

/-- 'laws.FnExactFragAlike', WHERE WHAT IT READS IS OF BULK AT MOST 1048576: true; the input reads as it did. -/
def fnExactFragAlikeUptoRow : OpenClaim := { program := "ytkfgfebendkihaa", sum := "29a2ba66c7848e8d3502a0ad505996943f24af3d6a5faaceac3b9633146e9dda", func := "loop.example/tern/laws.FnExactFragAlike", spec := "fnExactFragAlike", apart := false, narrowed := true }
def FnExactFragAlikeUptoSaid : Prop := fnExactFragAlikeUptoRow.holds Try.pinned (OpenSpec.upto fnExactFragAlikeSpec)

/-- 'laws.FnExactFragSize', WHERE WHAT IT READS IS OF BULK AT MOST 1048576: true; the input reads as it did. -/
def fnExactFragSizeUptoRow : OpenClaim := { program := "ytkfgfebendkihaa", sum := "29a2ba66c7848e8d3502a0ad505996943f24af3d6a5faaceac3b9633146e9dda", func := "loop.example/tern/laws.FnExactFragSize", spec := "fnExactFragSize", apart := false, narrowed := true }
def FnExactFragSizeUptoSaid : Prop := fnExactFragSizeUptoRow.holds Try.pinned (OpenSpec.upto fnExactFragSizeSpec)

/-- 'laws.FnExactFragHop', WHERE WHAT IT READS IS OF BULK AT MOST 1048576: true; the input reads as it did. -/
def fnExactFragHopUptoRow : OpenClaim := { program := "ytkfgfebendkihaa", sum := "29a2ba66c7848e8d3502a0ad505996943f24af3d6a5faaceac3b9633146e9dda", func := "loop.example/tern/laws.FnExactFragHop", spec := "fnExactFragHop", apart := false, narrowed := true }
def FnExactFragHopUptoSaid : Prop := fnExactFragHopUptoRow.holds Try.pinned (OpenSpec.upto fnExactFragHopSpec)

/-- 'laws.FnFragHop', WHERE WHAT IT READS IS OF BULK AT MOST 1048576: true; the input reads as it did. -/
def fnFragHopUptoRow : OpenClaim := { program := "ytkfgfebendkihaa", sum := "29a2ba66c7848e8d3502a0ad505996943f24af3d6a5faaceac3b9633146e9dda", func := "loop.example/tern/laws.FnFragHop", spec := "fnFragHop", apart := false, narrowed := true }
def FnFragHopUptoSaid : Prop := fnFragHopUptoRow.holds Try.pinned (OpenSpec.upto fnFragHopSpec)

/-- 'laws.FnExactFragCut', WHERE WHAT IT READS IS OF BULK AT MOST 1048576: true; the input reads as it did. -/
def fnExactFragCutUptoRow : OpenClaim := { program := "ytkfgfebendkihaa", sum := "29a2ba66c7848e8d3502a0ad505996943f24af3d6a5faaceac3b9633146e9dda", func := "loop.example/tern/laws.FnExactFragCut", spec := "fnExactFragCut", apart := false, narrowed := true }
def FnExactFragCutUptoSaid : Prop := fnExactFragCutUptoRow.holds Try.pinned (OpenSpec.upto fnExactFragCutSpec)

/-- 'laws.FnFragCut', WHERE WHAT IT READS IS OF BULK AT MOST 1048576: true; the input reads as it did. -/
def fnFragCutUptoRow : OpenClaim := { program := "ytkfgfebendkihaa", sum := "29a2ba66c7848e8d3502a0ad505996943f24af3d6a5faaceac3b9633146e9dda", func := "loop.example/tern/laws.FnFragCut", spec := "fnFragCut", apart := false, narrowed := true }
def FnFragCutUptoSaid : Prop := fnFragCutUptoRow.holds Try.pinned (OpenSpec.upto fnFragCutSpec)

/-- 'laws.FnFragLacks', WHERE WHAT IT READS IS OF BULK AT MOST 1048576: true; the input reads as it did. -/
def fnFragLacksUptoRow : OpenClaim := { program := "ytkfgfebendkihaa", sum := "29a2ba66c7848e8d3502a0ad505996943f24af3d6a5faaceac3b9633146e9dda", func := "loop.example/tern/laws.FnFragLacks", spec := "fnFragLacks", apart := false, narrowed := true }
def FnFragLacksUptoSaid : Prop := fnFragLacksUptoRow.holds Try.pinned (OpenSpec.upto fnFragLacksSpec)

/-- 'laws.FnFragTop', WHERE WHAT IT READS IS OF BULK AT MOST 1048576: true; the input reads as it did. -/
def fnFragTopUptoRow : OpenClaim := { program := "ytkfgfebendkihaa", sum := "29a2ba66c7848e8d3502a0ad505996943f24af3d6a5faaceac3b9633146e9dda", func := "loop.example/tern/laws.FnFragTop", spec := "fnFragTop", apart := false, narrowed := true }
def FnFragTopUptoSaid : Prop := fnFragTopUptoRow.holds Try.pinned (OpenSpec.upto fnFragTopSpec)

/-- 'laws.FnExactFragJoin', WHERE WHAT IT READS IS OF BULK AT MOST 1048576: true; the input reads as it did. -/
def fnExactFragJoinUptoRow : OpenClaim := { program := "ytkfgfebendkihaa", sum := "29a2ba66c7848e8d3502a0ad505996943f24af3d6a5faaceac3b9633146e9dda", func := "loop.example/tern/laws.FnExactFragJoin", spec := "fnExactFragJoin", apart := false, narrowed := true }
def FnExactFragJoinUptoSaid : Prop := fnExactFragJoinUptoRow.holds Try.pinned (OpenSpec.upto fnExactFragJoinSpec)

/-- 'laws.FnFragJoin', WHERE WHAT IT READS IS OF BULK AT MOST 1048576: true; the input reads as it did. -/
def fnFragJoinUptoRow : OpenClaim := { program := "ytkfgfebendkihaa", sum := "29a2ba66c7848e8d3502a0ad505996943f24af3d6a5faaceac3b9633146e9dda", func := "loop.example/tern/laws.FnFragJoin", spec := "fnFragJoin", apart := false, narrowed := true }
def FnFragJoinUptoSaid : Prop := fnFragJoinUptoRow.holds Try.pinned (OpenSpec.upto fnFragJoinSpec)

/-- 'laws.FnExactFragBenchOk', WHERE WHAT IT READS IS OF BULK AT MOST 1048576: true; the input reads as it did. -/
def fnExactFragBenchOkUptoRow : OpenClaim := { program := "ytkfgfebendkihaa", sum := "29a2ba66c7848e8d3502a0ad505996943f24af3d6a5faaceac3b9633146e9dda", func := "loop.example/tern/laws.FnExactFragBenchOk", spec := "fnExactFragBenchOk", apart := false, narrowed := true }
def FnExactFragBenchOkUptoSaid : Prop := fnExactFragBenchOkUptoRow.holds Try.pinned (OpenSpec.upto fnExactFragBenchOkSpec)

end Rows
end Go.Proofs.Ytkfgfebendkihaa

/-
  No cell of these rows narrows 'for every input' (looked for: loops, veiled, ifaces, maps, wideKeys, modest, calm, conditions, laid).
  DERIVED. THE GIVEN ROWS OF THIS SEAT. 8 by the template 'for every input the law returns true; each argument reads behind the call as it read before'; 0 by the template 'total and deterministic' (their statements: YtodhjpnfokkfeaaTotals.lean).
  GIVEN WITH THE SEED: the statements are not yours to turn. If you find one false, say at which input.
  Laid BY PROGRAM, IN A SANDBOX (cutbox-rows.mjs): the forced cells as the released guide's own fill.sh prints them over the translation e276f57128c0cf5f… (all of the seat's roots in one cut). By AI agents, Wed Nov 11 2026. No macro, syntax, notation, axiom, sorry.
-/
import Derived.Test.YtodhjpnfokkfeaaChecked
import GoSem.Claim
import GoSem.ClaimJoined
import GoSem.ClaimMapViews
import Derived.JoinedTies
import Derived.KernelRfl
namespace Go.Proofs.Ytodhjpnfokkfeaa
/- THE CELL 'sum', in the pinned program and in every row, IS THE sha256 OF THE DUMP (.gsa) THAT YtodhjpnfokkfeaaProg.lean LOADS. Nothing in Lean hashes anything: it is a label: what it is worth is what the hold of that sum in a sandbox is worth. -/
noncomputable def Try.pinned : Pinned := { name := "ytodhjpnfokkfeaa", sum := "e276f57128c0cf5ff15b73c1a2142731cd28d8a247a753add3afe87fe4952287", checked := Try.checked }
namespace Rows
def none {H : Type} : Left H := { results := [], args := [] }

/-- 'laws.FnFragLacks': WHATEVER THE INPUT: true; the input reads as it did. -/
def fnFragLacksSpec : ChangeSpec := { name := "fnFragLacks", fn := fun _ => fun
  | [d1, d2] => { results := [.lit (.bool true)], args := [d1, d2] }
  | _ => none }
def fnFragLacksRow : OpenClaim := { program := "ytodhjpnfokkfeaa", sum := "e276f57128c0cf5ff15b73c1a2142731cd28d8a247a753add3afe87fe4952287", func := "loop.example/tern/laws.FnFragLacks", spec := "fnFragLacks", apart := false }
def FnFragLacksSaid : Prop := fnFragLacksRow.holds Try.pinned (OpenSpec.ofChange fnFragLacksSpec)

/-- ITS FALSE NEIGHBOUR: 'it returns false'. Refute it at one input. -/
def fnFragLacksWrong : ChangeSpec := { name := "fnFragLacks", fn := fun _ => fun
  | [d1, d2] => { results := [.lit (.bool false)], args := [d1, d2] }
  | _ => none }
def FnFragLacksWrongFalsely : Prop := fnFragLacksRow.holds Try.pinned (OpenSpec.ofChange fnFragLacksWrong)

/-- 'laws.FnFragJoin': WHATEVER THE INPUT: true; the input reads as it did. -/
def fnFragJoinSpec : ChangeSpec := { name := "fnFragJoin", fn := fun _ => fun
  | [d1, d2] => { results := [.lit (.bool true)], args := [d1, d2] }
  | _ => none }
def fnFragJoinRow : OpenClaim := { program := "ytodhjpnfokkfeaa", sum := "e276f57128c0cf5ff15b73c1a2142731cd28d8a247a753add3afe87fe4952287", func := "loop.example/tern/laws.FnFragJoin", spec := "fnFragJoin", apart := false }
def FnFragJoinSaid : Prop := fnFragJoinRow.holds Try.pinned (OpenSpec.ofChange fnFragJoinSpec)

/-- ITS FALSE NEIGHBOUR: 'it returns false'. Refute it at one input. -/
def fnFragJoinWrong : ChangeSpec := { name := "fnFragJoin", fn := fun _ => fun
  | [d1, d2] => { results := [.lit (.bool false)], args := [d1, d2] }
  | _ => none }
def FnFragJoinWrongFalsely : Prop := fnFragJoinRow.holds Try.pinned (OpenSpec.ofChange fnFragJoinWrong)

/-- 'laws.FnExactFragBenchOk': WHATEVER THE INPUT: true; the input reads as it did. -/
def fnExactFragBenchOkSpec : ChangeSpec := { name := "fnExactFragBenchOk", fn := fun _ => fun
  | [d] => { results := [.lit (.bool true)], args := [d] }
  | _ => none }
def fnExactFragBenchOkRow : OpenClaim := { program := "ytodhjpnfokkfeaa", sum := "e276f57128c0cf5ff15b73c1a2142731cd28d8a247a753add3afe87fe4952287", func := "loop.example/tern/laws.FnExactFragBenchOk", spec := "fnExactFragBenchOk", apart := false }
def FnExactFragBenchOkSaid : Prop := fnExactFragBenchOkRow.holds Try.pinned (OpenSpec.ofChange fnExactFragBenchOkSpec)

/-- ITS FALSE NEIGHBOUR: 'it returns false'. Refute it at one input. -/
def fnExactFragBenchOkWrong : ChangeSpec := { name := "fnExactFragBenchOk", fn := fun _ => fun
  | [d] => { results := [.lit (.bool false)], args := [d] }
  | _ => none }
def FnExactFragBenchOkWrongFalsely : Prop := fnExactFragBenchOkRow.holds Try.pinned (OpenSpec.ofChange fnExactFragBenchOkWrong)

/-- 'laws.FnExactFragTick': WHATEVER THE INPUT: true; the input reads as it did. -/
def fnExactFragTickSpec : ChangeSpec := { name := "fnExactFragTick", fn := fun _ => fun
  | [d] => { results := [.lit (.bool true)], args := [d] }
  | _ => none }
def fnExactFragTickRow : OpenClaim := { program := "ytodhjpnfokkfeaa", sum := "e276f57128c0cf5ff15b73c1a2142731cd28d8a247a753add3afe87fe4952287", func := "loop.example/tern/laws.FnExactFragTick", spec := "fnExactFragTick", unfollowed := true, recurses := true, apart := false }
def FnExactFragTickSaid : Prop := fnExactFragTickRow.holds Try.pinned (OpenSpec.ofChange fnExactFragTickSpec)

/-- ITS FALSE NEIGHBOUR: 'it returns false'. Refute it at one input. -/
def fnExactFragTickWrong : ChangeSpec := { name := "fnExactFragTick", fn := fun _ => fun
  | [d] => { results := [.lit (.bool false)], args := [d] }
  | _ => none }
def FnExactFragTickWrongFalsely : Prop := fnExactFragTickRow.holds Try.pinned (OpenSpec.ofChange fnExactFragTickWrong)

/-- 'laws.FnExactFragTake': WHATEVER THE INPUT: true; the input reads as it did. -/
def fnExactFragTakeSpec : ChangeSpec := { name := "fnExactFragTake", fn := fun _ => fun
  | [d1, d2] => { results := [.lit (.bool true)], args := [d1, d2] }
  | _ => none }
def fnExactFragTakeRow : OpenClaim := { program := "ytodhjpnfokkfeaa", sum := "e276f57128c0cf5ff15b73c1a2142731cd28d8a247a753add3afe87fe4952287", func := "loop.example/tern/laws.FnExactFragTake", spec := "fnExactFragTake", unfollowed := true, recurses := true, apart := false }
def FnExactFragTakeSaid : Prop := fnExactFragTakeRow.holds Try.pinned (OpenSpec.ofChange fnExactFragTakeSpec)

/-- ITS FALSE NEIGHBOUR: 'it returns false'. Refute it at one input. -/
def fnExactFragTakeWrong : ChangeSpec := { name := "fnExactFragTake", fn := fun _ => fun
  | [d1, d2] => { results := [.lit (.bool false)], args := [d1, d2] }
  | _ => none }
def FnExactFragTakeWrongFalsely : Prop := fnExactFragTakeRow.holds Try.pinned (OpenSpec.ofChange fnExactFragTakeWrong)

/-- 'laws.FnFragForget': WHATEVER THE INPUT: true; the input reads as it did. -/
def fnFragForgetSpec : ChangeSpec := { name := "fnFragForget", fn := fun _ => fun
  | [d] => { results := [.lit (.bool true)], args := [d] }
  | _ => none }
def fnFragForgetRow : OpenClaim := { program := "ytodhjpnfokkfeaa", sum := "e276f57128c0cf5ff15b73c1a2142731cd28d8a247a753add3afe87fe4952287", func := "loop.example/tern/laws.FnFragForget", spec := "fnFragForget", unfollowed := true, recurses := true, apart := false }
def FnFragForgetSaid : Prop := fnFragForgetRow.holds Try.pinned (OpenSpec.ofChange fnFragForgetSpec)

/-- ITS FALSE NEIGHBOUR: 'it returns false'. Refute it at one input. -/
def fnFragForgetWrong : ChangeSpec := { name := "fnFragForget", fn := fun _ => fun
  | [d] => { results := [.lit (.bool false)], args := [d] }
  | _ => none }
def FnFragForgetWrongFalsely : Prop := fnFragForgetRow.holds Try.pinned (OpenSpec.ofChange fnFragForgetWrong)

/-- 'laws.FnFragAmong': WHATEVER THE INPUT: true; the input reads as it did. -/
def fnFragAmongSpec : ChangeSpec := { name := "fnFragAmong", fn := fun _ => fun
  | [d] => { results := [.lit (.bool true)], args := [d] }
  | _ => none }
def fnFragAmongRow : OpenClaim := { program := "ytodhjpnfokkfeaa", sum := "e276f57128c0cf5ff15b73c1a2142731cd28d8a247a753add3afe87fe4952287", func := "loop.example/tern/laws.FnFragAmong", spec := "fnFragAmong", unfollowed := true, recurses := true, apart := false }
def FnFragAmongSaid : Prop := fnFragAmongRow.holds Try.pinned (OpenSpec.ofChange fnFragAmongSpec)

/-- ITS FALSE NEIGHBOUR: 'it returns false'. Refute it at one input. -/
def fnFragAmongWrong : ChangeSpec := { name := "fnFragAmong", fn := fun _ => fun
  | [d] => { results := [.lit (.bool false)], args := [d] }
  | _ => none }
def FnFragAmongWrongFalsely : Prop := fnFragAmongRow.holds Try.pinned (OpenSpec.ofChange fnFragAmongWrong)

/-- 'laws.FnFragBench': WHATEVER THE INPUT: true; the input reads as it did. -/
def fnFragBenchSpec : ChangeSpec := { name := "fnFragBench", fn := fun _ => fun
  | [d] => { results := [.lit (.bool true)], args := [d] }
  | _ => none }
def fnFragBenchRow : OpenClaim := { program := "ytodhjpnfokkfeaa", sum := "e276f57128c0cf5ff15b73c1a2142731cd28d8a247a753add3afe87fe4952287", func := "loop.example/tern/laws.FnFragBench", spec := "fnFragBench", unfollowed := true, recurses := true, apart := false }
def FnFragBenchSaid : Prop := fnFragBenchRow.holds Try.pinned (OpenSpec.ofChange fnFragBenchSpec)

/-- ITS FALSE NEIGHBOUR: 'it returns false'. Refute it at one input. -/
def fnFragBenchWrong : ChangeSpec := { name := "fnFragBench", fn := fun _ => fun
  | [d] => { results := [.lit (.bool false)], args := [d] }
  | _ => none }
def FnFragBenchWrongFalsely : Prop := fnFragBenchRow.holds Try.pinned (OpenSpec.ofChange fnFragBenchWrong)

/- THE SECOND FORM. 'bulk': how many values and letters a reading holds, each counted each time it is reached (what is shared counts as often as it is met; a slice's spare places count too). A statement '..UptoSaid' is the law's where the arguments, and the package variables that the reading takes, are together of bulk at most 1048576: NARROWER than '..Said'. Prove '..Said' where nothing that the law and all that it calls make is longer than what came in: it says more and counts as full. Else prove '..UptoSaid'. A law counts once. -/
mutual
def uptoBulk {H : Type} : DataW H → Nat
  | .lit (.string bytes) => bytes.length + 1
  | .lit _ => 1
  | .nil => 1
  | .ptr d => uptoBulk d + 1
  | .slice elems spare => uptoBulkAll elems + uptoBulkAll spare + 1
  | .agg parts => uptoBulkAll parts + 1
  | .iface _ d => uptoBulk d + 1
  | .map entries => uptoBulkEntries entries + 1
  | .held _ => 1
def uptoBulkAll {H : Type} : List (DataW H) → Nat
  | [] => 0
  | d :: r => uptoBulk d + uptoBulkAll r
def uptoBulkEntries {H : Type} : List (Lit × DataW H) → Nat
  | [] => 0
  | x :: r => uptoBulkEntry x + uptoBulkEntries r
def uptoBulkEntry {H : Type} : Lit × DataW H → Nat
  | (.string bytes, d) => bytes.length + uptoBulk d + 1
  | (_, d) => uptoBulk d + 1
 end
def uptoSmall : (H : Type) → List (DataW H) → Bool := fun _ ds => decide (uptoBulkAll ds ≤ 1048576)
def OpenSpec.upto (s : _root_.Go.ChangeSpec) : _root_.Go.OpenSpec := { _root_.Go.OpenSpec.ofChange s with cond := some uptoSmall }

/-- 'laws.FnFragLacks', WHERE WHAT IT READS IS OF BULK AT MOST 1048576: true; the input reads as it did. -/
def fnFragLacksUptoRow : OpenClaim := { program := "ytodhjpnfokkfeaa", sum := "e276f57128c0cf5ff15b73c1a2142731cd28d8a247a753add3afe87fe4952287", func := "loop.example/tern/laws.FnFragLacks", spec := "fnFragLacks", apart := false, narrowed := true }
def FnFragLacksUptoSaid : Prop := fnFragLacksUptoRow.holds Try.pinned (OpenSpec.upto fnFragLacksSpec)

/-- 'laws.FnFragJoin', WHERE WHAT IT READS IS OF BULK AT MOST 1048576: true; the input reads as it did. -/
def fnFragJoinUptoRow : OpenClaim := { program := "ytodhjpnfokkfeaa", sum := "e276f57128c0cf5ff15b73c1a2142731cd28d8a247a753add3afe87fe4952287", func := "loop.example/tern/laws.FnFragJoin", spec := "fnFragJoin", apart := false, narrowed := true }
def FnFragJoinUptoSaid : Prop := fnFragJoinUptoRow.holds Try.pinned (OpenSpec.upto fnFragJoinSpec)

/-- 'laws.FnExactFragBenchOk', WHERE WHAT IT READS IS OF BULK AT MOST 1048576: true; the input reads as it did. -/
def fnExactFragBenchOkUptoRow : OpenClaim := { program := "ytodhjpnfokkfeaa", sum := "e276f57128c0cf5ff15b73c1a2142731cd28d8a247a753add3afe87fe4952287", func := "loop.example/tern/laws.FnExactFragBenchOk", spec := "fnExactFragBenchOk", apart := false, narrowed := true }
def FnExactFragBenchOkUptoSaid : Prop := fnExactFragBenchOkUptoRow.holds Try.pinned (OpenSpec.upto fnExactFragBenchOkSpec)

/-- 'laws.FnExactFragTick', WHERE WHAT IT READS IS OF BULK AT MOST 1048576: true; the input reads as it did. -/
def fnExactFragTickUptoRow : OpenClaim := { program := "ytodhjpnfokkfeaa", sum := "e276f57128c0cf5ff15b73c1a2142731cd28d8a247a753add3afe87fe4952287", func := "loop.example/tern/laws.FnExactFragTick", spec := "fnExactFragTick", unfollowed := true, recurses := true, apart := false, narrowed := true }
def FnExactFragTickUptoSaid : Prop := fnExactFragTickUptoRow.holds Try.pinned (OpenSpec.upto fnExactFragTickSpec)

/-- 'laws.FnExactFragTake', WHERE WHAT IT READS IS OF BULK AT MOST 1048576: true; the input reads as it did. -/
def fnExactFragTakeUptoRow : OpenClaim := { program := "ytodhjpnfokkfeaa", sum := "e276f57128c0cf5ff15b73c1a2142731cd28d8a247a753add3afe87fe4952287", func := "loop.example/tern/laws.FnExactFragTake", spec := "fnExactFragTake", unfollowed := true, recurses := true, apart := false, narrowed := true }
def FnExactFragTakeUptoSaid : Prop := fnExactFragTakeUptoRow.holds Try.pinned (OpenSpec.upto fnExactFragTakeSpec)

/-- 'laws.FnFragForget', WHERE WHAT IT READS IS OF BULK AT MOST 1048576: true; the input reads as it did. -/
def fnFragForgetUptoRow : OpenClaim := { program := "ytodhjpnfokkfeaa", sum := "e276f57128c0cf5ff15b73c1a2142731cd28d8a247a753add3afe87fe4952287", func := "loop.example/tern/laws.FnFragForget", spec := "fnFragForget", unfollowed := true, recurses := true, apart := false, narrowed := true }
def FnFragForgetUptoSaid : Prop := fnFragForgetUptoRow.holds Try.pinned (OpenSpec.upto fnFragForgetSpec)

/-- 'laws.FnFragAmong', WHERE WHAT IT READS IS OF BULK AT MOST 1048576: true; the input reads as it did. -/
def fnFragAmongUptoRow : OpenClaim := { program := "ytodhjpnfokkfeaa", sum := "e276f57128c0cf5ff15b73c1a2142731cd28d8a247a753add3afe87fe4952287", func := "loop.example/tern/laws.FnFragAmong", spec := "fnFragAmong", unfollowed := true, recurses := true, apart := false, narrowed := true }
def FnFragAmongUptoSaid : Prop := fnFragAmongUptoRow.holds Try.pinned (OpenSpec.upto fnFragAmongSpec)

/-- 'laws.FnFragBench', WHERE WHAT IT READS IS OF BULK AT MOST 1048576: true; the input reads as it did. -/
def fnFragBenchUptoRow : OpenClaim := { program := "ytodhjpnfokkfeaa", sum := "e276f57128c0cf5ff15b73c1a2142731cd28d8a247a753add3afe87fe4952287", func := "loop.example/tern/laws.FnFragBench", spec := "fnFragBench", unfollowed := true, recurses := true, apart := false, narrowed := true }
def FnFragBenchUptoSaid : Prop := fnFragBenchUptoRow.holds Try.pinned (OpenSpec.upto fnFragBenchSpec)

end Rows
end Go.Proofs.Ytodhjpnfokkfeaa
